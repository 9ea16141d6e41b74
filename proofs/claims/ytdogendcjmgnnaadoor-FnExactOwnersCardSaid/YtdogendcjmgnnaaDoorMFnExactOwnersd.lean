/- For all rings, keys and numbers the program's Owners and the reference's return the same, of memory of its own, and the ring stays as it was. No condition. (Part 4 of 4: written by programs of this workplace and by hand, merged.) -/
import Derived.Test.YtdogendcjmgnnaaDoorMFnExactOwnersa
import Derived.Test.YtdogendcjmgnnaaDoorMFnExactOwnersb
import Derived.Test.YtdogendcjmgnnaaDoorMFnExactOwnersc
import Derived.Lib.SliceRun
import Derived.Test.YtdogendcjmgnnaaDoorMFnExactOwnersWWords
import Derived.Test.YtdogendcjmgnnaaDoorMFnExactOwnersWMore
import Derived.Laws.BitsLemmas
import Derived.Test.YtdogendcjmgnnaaDoorRows
import Derived.Test.YtdogendcjmgnnaaDoorTie
import Derived.Test.YtdogendcjmgnnaaDoorCards
import Derived.WalkKit
import Derived.ProofKit
import Derived.OpenShut
import Derived.ShutString
import Derived.ChangeOld
import Derived.Below
import Derived.SizedLaws
import Derived.LaidMore
import Derived.Lay
import Derived.LaidOnce
import Derived.SevenTiedAt
import Derived.LaidLaws
import Derived.ChangeSame
import Derived.ChangeVars
import Derived.JoinedOf
set_option linter.unusedVariables false
set_option linter.unusedSimpArgs false

namespace Go.Proofs.YtdogendcjmgnnaaDoor.P
open Go.RowKit Go.Proofs.YtdogendcjmgnnaaDoorW.PrintWords Go.Proofs.YtdogendcjmgnnaaDoorW.PrintLast Go.Proofs.YtdogendcjmgnnaaDoorW.PrintMore
attribute [local go_sem] max2_int min2_int max_two min_two max_three min_three max_four min_four   -- for this text's walks alone
set_option linter.unusedVariables false
set_option linter.unusedSimpArgs false

/-! ### impl_ringNew: function 42 -/
mutual
def impl_ringNew.l0:Nat→Int→Int→Int→Int→List (S57)→Option (Int × (List (S57)))
 | 0,_,_,_,_,_=>none
 | k+1,x0,x1,x6,x263000,x263001=>if x6≤x0 then (impl_ringNew.l1 k x0 x1 x6 1 x263000 x263001) else ((slices_SortFunc_impl_Token_impl_Token_impl_ringNew_1.f k x263001).bind fun t263=>(some (x263000,t263)))
def impl_ringNew.l1:Nat→Int→Int→Int→Int→Int→List (S57)→Option (Int × (List (S57)))
 | 0,_,_,_,_,_,_=>none
 | k+1,x0,x1,x6,x7,x263000,x263001=>if x7≤x1 then ((impl_decimal.f k x6).bind fun t264=>(if t264.size+1≤9223372036854775807 then ((impl_decimal.f k x7).bind fun t265=>(if (t264.size+1)+t265.size≤9223372036854775807 then ((impl_fnv.f k ((t264 ++ (⟨#[45]⟩:ByteArray)) ++ t265)).bind fun t266=>(if x263001.length<8796093022208 then (impl_ringNew.l1 k x0 x1 x6 (wrap64 (x7+1)) x263000 (x263001 ++ [(⟨t266,x6⟩:S57)])) else (none))) else (none))) else (none))) else (impl_ringNew.l0 k x0 x1 (wrap64 (x6+1)) x263000 x263001)
end
def impl_ringNew.f (k:Nat) (a0:Int) (a1:Int):Option (Int × (List (S57))):=impl_ringNew.l0 k a0 a1 1 a0 ([]:List (S57))
theorem impl_ringNew.mono_l:∀ k,(∀ y0 y1 y2 y3 y4,LeO (impl_ringNew.l0 k y0 y1 y2 y3 y4) (impl_ringNew.l0 (k+1) y0 y1 y2 y3 y4))∧(∀ y0 y1 y2 y3 y4 y5,LeO (impl_ringNew.l1 k y0 y1 y2 y3 y4 y5) (impl_ringNew.l1 (k+1) y0 y1 y2 y3 y4 y5))
 | 0=>⟨fun _ _ _ _ _ r h=>by simp [impl_ringNew.l0] at h,fun _ _ _ _ _ _ r h=>by simp [impl_ringNew.l1] at h⟩
 | k+1=>by
  obtain ⟨ih0,ih1⟩:=impl_ringNew.mono_l k
  refine ⟨?_,?_⟩
  ·intro y0 y1 y2 y3 y4
   unfold impl_ringNew.l0
   repeat' first
   | (with_reducible exact ih0 _ _ _ _ _)
   | (with_reducible exact ih1 _ _ _ _ _ _)
   | (with_reducible exact impl_decimal.mono _ _)
   | (with_reducible exact impl_fnv.mono _ _)
   | (with_reducible exact slices_SortFunc_impl_Token_impl_Token_impl_ringNew_1.mono _ _)
   | (with_reducible exact LeO.refl _)
   | (with_reducible exact LeO.none _)
   | (with_reducible refine LeO.ite ?_ ?_)
   | (with_reducible refine LeO.bind ?_ (fun _=>?_))
   | exact ih0 _ _ _ _ _
   | exact ih1 _ _ _ _ _ _
   | exact impl_decimal.mono _ _
   | exact impl_fnv.mono _ _
   | exact slices_SortFunc_impl_Token_impl_Token_impl_ringNew_1.mono _ _
   | exact LeO.none _
   | refine LeO.ite ?_ ?_
   | refine LeO.bind ?_ (fun _=>?_)
  ·intro y0 y1 y2 y3 y4 y5
   unfold impl_ringNew.l1
   repeat' first
   | (with_reducible exact ih0 _ _ _ _ _)
   | (with_reducible exact ih1 _ _ _ _ _ _)
   | (with_reducible exact impl_decimal.mono _ _)
   | (with_reducible exact impl_fnv.mono _ _)
   | (with_reducible exact slices_SortFunc_impl_Token_impl_Token_impl_ringNew_1.mono _ _)
   | (with_reducible exact LeO.refl _)
   | (with_reducible exact LeO.none _)
   | (with_reducible refine LeO.ite ?_ ?_)
   | (with_reducible refine LeO.bind ?_ (fun _=>?_))
   | exact ih0 _ _ _ _ _
   | exact ih1 _ _ _ _ _ _
   | exact impl_decimal.mono _ _
   | exact impl_fnv.mono _ _
   | exact slices_SortFunc_impl_Token_impl_Token_impl_ringNew_1.mono _ _
   | exact LeO.none _
   | refine LeO.ite ?_ ?_
   | refine LeO.bind ?_ (fun _=>?_)
theorem impl_ringNew.mono:∀ a0 a1 k,LeO (impl_ringNew.f k a0 a1) (impl_ringNew.f (k+1) a0 a1):=by
 intro a0 a1 k
 obtain ⟨ih0,ih1⟩:=impl_ringNew.mono_l k
 unfold impl_ringNew.f
 repeat' first
   | (with_reducible exact ih0 _ _ _ _ _)
   | (with_reducible exact ih1 _ _ _ _ _ _)
   | (with_reducible exact impl_decimal.mono _ _)
   | (with_reducible exact impl_fnv.mono _ _)
   | (with_reducible exact slices_SortFunc_impl_Token_impl_Token_impl_ringNew_1.mono _ _)
   | (with_reducible exact LeO.refl _)
   | (with_reducible exact LeO.none _)
   | (with_reducible refine LeO.ite ?_ ?_)
   | (with_reducible refine LeO.bind ?_ (fun _=>?_))
   | exact ih0 _ _ _ _ _
   | exact ih1 _ _ _ _ _ _
   | exact impl_decimal.mono _ _
   | exact impl_fnv.mono _ _
   | exact slices_SortFunc_impl_Token_impl_Token_impl_ringNew_1.mono _ _
   | exact LeO.none _
   | refine LeO.ite ?_ ?_
   | refine LeO.bind ?_ (fun _=>?_)
def impl_ringNew.T8:Bool × List (List Nat × List Nat):=(true,[([],[]),([0],[0]),([],[]),([2],[2]),([3],[3]),([],[]),([5,3],[5]),([4,6],[4,6]),([7,6],[7]),([],[]),([8,9],[8,9]),([10],[10]),([1,11,8],[1,11]),([0,1,2,3,4,5,6,7,8,9,10,11,12],[]),([13,12,12,0,1,2,3,4,5,6,7,8,9,10,11,12],[12,13])])
def impl_ringNew.B8:List Nat:=[0,1,0,4,12,0,44,124,252,0,1020,2044,4095,8191,16383]
theorem impl_ringNew.tab8:rtab .any (opsOf Tryd.f42 8)=impl_ringNew.T8:=by kernel_rfl
theorem impl_ringNew.bits8:waitsOk impl_ringNew.T8.2 impl_ringNew.B8=true:=by kernel_rfl
set_option maxHeartbeats 8000000 in
set_option maxRecDepth 100000 in
theorem impl_ringNew.calls (k:Nat) (a0:Int) (a1:Int) (r1:Int) (r2:List (S57)) (w:World) (h:impl_ringNew.f k a0 a1=some (r1,r2)) :
  Calls Tryd.prog 42 #[.int .i64 a0,.int .i64 a1] w fun e w'=>∃ v1_:Value,e = .returned (.agg #[.int .i64 r1,v1_])∧Kd.R k57 57 w' w.heap.size (fun _=>True) v1_ r2∧Below w.heap.size w w':=by
 have hu29:=Tryd.underlying29
 have hu57:=Tryd.underlying57
 have HB:=Aside0.mk (Below.refl w.heap.size w)
 have H:(impl_ringNew.l0 k a0 a1 1 a0 ([]:List (S57)))=some (r1,r2):=h
 clear h
 have H':=Aside0.mk H
 clear H
 go_enter Tryd.func42,Tryd.ntmps42
 go_wp2_with (first | ((with_reducible refine gd_ 4 ?_);refine be_ 4 #[.int .i64 0,.slice none 0 0] 29 ?_;intro gb261 hg w3 hbox hb;refine as4_ (below_step (z3_ HB.out) hb) (hbox) ((z8_ HB.out:w.heap.size≤gb261)) ((z8_ HB.out:w.heap.size≤gb261)) ?_;clear HB;intro HB BK261 GW261 GE261;clear hb hbox hg) | ((with_reducible refine gd_ 5 ?_);refine be_ 5 #[.int .i64 0,.slice none 0 0] 29 ?_;intro gb262 hg w4 hbox hb;refine as7_ (blkB_ BK261.out hb) (below_step (z5_ HB.out GE261.out) hb) (hbox) ((z12_ HB.out GE261.out:w.heap.size≤gb262)) ((z12_ HB.out GE261.out:w.heap.size≤gb262)) (neL_ BK261.out hg) (neG_ BK261.out hg) ?_;clear BK261 HB;intro BK261 HB BK262 GW262 GE262 NB261_262 NB262_261;clear hb hbox hg;have hnb5:=NB262_261.out;have hnc5:=NB261_262.out;have ⟨hcz6_0,hcz6_1,hfz6_0,hfz6_1⟩:=cz2_ BK262.out))
 go_loopg [6] k (fun kq v6 w'=>∃ (x6_1:Int) (x263001_1:List (S57)) (u263001:Value),v6 = .int .i64 x6_1∧Aside0 (impl_ringNew.l0 kq a0 a1 x6_1 a0 x263001_1=some (r1,r2))∧Aside0 (kq≤k)∧Aside0 (Kd.R k57 57 w' w.heap.size (fun _=>True) u263001 x263001_1)∧Aside0 (w'.heap[gb261]? = some (.cells #[.int .i64 0,(.slice none 0 0)] 29 (0,0)))∧Aside0 (w'.heap[gb262]? = some (.cells #[.int .i64 a0,u263001] 29 (0,0)))∧Aside0 (Below w.heap.size w w'))
 case atStart=>exact ⟨(1),(([]:List (S57))),(.slice none 0 0),(z1_),H',⟨Nat.le_refl _⟩,⟨z31_⟩,⟨z24_ NB261_262.out BK261.out⟩,⟨z23_ BK262.out⟩,⟨z7_ HB.out GE261.out GE262.out⟩⟩
 case round =>
  clear H'
  try clear p2
  try clear c4
  try clear c5
  try clear hcz6_0
  try clear hcz6_1
  try clear hfz6_0
  try clear hfz6_1
  obtain ⟨x6_1,x263001_1,u263001,rfl,HA,HK1,HO_263001,BK261,BK262,HB⟩:=hrel
  cases gk with
  | zero=>exact absurd HA.out (by simp [impl_ringNew.l0])
  | succ k1 =>
   have H:=HA.out
   clear HA
   simp only [impl_ringNew.l0] at H
   by_cases c7:x6_1≤a0
   ·rw [if_pos c7] at H
    have c7b0:decide (x6_1≤a0)=true:=decide_eq_true c7
    clear c7
    have H':=Aside0.mk H
    clear H
    go_wp2
    go_loopg [7] k1 (fun kq v7 w'=>∃ (x7_2:Int) (x263001_2:List (S57)) (u263001:Value),v7 = .int .i64 x7_2∧Aside0 (impl_ringNew.l1 kq a0 a1 x6_1 x7_2 a0 x263001_2=some (r1,r2))∧Aside0 (kq≤k1)∧Aside0 (Kd.R k57 57 w' w.heap.size (fun _=>True) u263001 x263001_2)∧Aside0 (w'.heap[gb261]? = some (.cells #[.int .i64 0,(.slice none 0 0)] 29 (0,0)))∧Aside0 (w'.heap[gb262]? = some (.cells #[.int .i64 a0,u263001] 29 (0,0)))∧Aside0 (Below w.heap.size w w'))
    case atStart=>exact ⟨(1),(x263001_1),(u263001),(z1_),H',⟨Nat.le_refl _⟩,⟨z2_ HO_263001.out⟩,⟨z4_ BK261.out⟩,⟨z4_ BK262.out⟩,⟨z7_ HB.out GE261.out GE262.out⟩⟩
    case round =>
     clear H'
     try clear p2
     try clear c4
     try clear c5
     try clear c7
     try clear c7b0
     try clear hcz6_0
     try clear hcz6_1
     try clear hfz6_0
     try clear hfz6_1
     try clear p2
     obtain ⟨x7_2,x263001_2,u263001,rfl,HA,HK2,HO_263001,BK261,BK262,HB⟩:=hrel
     cases gk with
     | zero=>exact absurd HA.out (by simp [impl_ringNew.l1])
     | succ k2 =>
      have H:=HA.out
      clear HA
      simp only [impl_ringNew.l1] at H
      by_cases c8:x7_2≤a1
      ·rw [if_pos c8] at H
       have c8b0:decide (x7_2≤a1)=true:=decide_eq_true c8
       clear c8
       replace H:=Option.bind_eq_some_iff.mp H
       obtain ⟨t264,A90,H⟩:=H
       replace H:(if t264.size+1≤9223372036854775807 then ((impl_decimal.f k2 x7_2).bind fun t265=>(if (t264.size+1)+t265.size≤9223372036854775807 then ((impl_fnv.f k2 ((t264 ++ (⟨#[45]⟩:ByteArray)) ++ t265)).bind fun t266=>(if x263001_2.length<8796093022208 then (impl_ringNew.l1 k2 a0 a1 x6_1 (wrap64 (x7_2+1)) a0 (x263001_2 ++ [(⟨t266,x6_1⟩:S57)])) else (none))) else (none))) else (none))=some (r1,r2):=H
       have A9:=Aside0.mk A90
       clear A90
       by_cases c10:t264.size+1≤9223372036854775807
       ·rw [if_pos c10] at H
        have c10b0:=eq_true c10
        have c10b1:decide (t264.size+1≤9223372036854775807)=true:=decide_eq_true c10
        try have c10b2:(9223372036854775807<t264.size+1)=False:=eq_false (Nat.not_lt.2 c10)
        replace H:=Option.bind_eq_some_iff.mp H
        obtain ⟨t265,A110,H⟩:=H
        replace H:(if (t264.size+1)+t265.size≤9223372036854775807 then ((impl_fnv.f k2 ((t264 ++ (⟨#[45]⟩:ByteArray)) ++ t265)).bind fun t266=>(if x263001_2.length<8796093022208 then (impl_ringNew.l1 k2 a0 a1 x6_1 (wrap64 (x7_2+1)) a0 (x263001_2 ++ [(⟨t266,x6_1⟩:S57)])) else (none))) else (none))=some (r1,r2):=H
        have A11:=Aside0.mk A110
        clear A110
        by_cases c12:(t264.size+1)+t265.size≤9223372036854775807
        ·rw [if_pos c12] at H
         have c12b0:=eq_true c12
         have c12b1:decide ((t264.size+1)+t265.size≤9223372036854775807)=true:=decide_eq_true c12
         try have c12b2:(9223372036854775807<(t264.size+1)+t265.size)=False:=eq_false (Nat.not_lt.2 c12)
         replace H:=Option.bind_eq_some_iff.mp H
         obtain ⟨t266,A130,H⟩:=H
         replace H:(if x263001_2.length<8796093022208 then (impl_ringNew.l1 k2 a0 a1 x6_1 (wrap64 (x7_2+1)) a0 (x263001_2 ++ [(⟨t266,x6_1⟩:S57)])) else (none))=some (r1,r2):=H
         have A13:=Aside0.mk A130
         clear A130
         by_cases c14:x263001_2.length<8796093022208
         ·rw [if_pos c14] at H
          have LMc14:=Aside0.mk c14
          clear c14
          obtain ⟨y267,hy267⟩:∃ y_:List (S57),y_=(x263001_2 ++ [(⟨t266,x6_1⟩:S57)]):=⟨_,rfl⟩
          replace H:(impl_ringNew.l1 k2 a0 a1 x6_1 (wrap64 (x7_2+1)) a0 y267)=some (r1,r2):=by first | (rw [hy267];with_reducible exact H) | (have H2_:=(Option.bind_some _ _).symm.trans H;rw [hy267];with_reducible exact H2_) | (have H2_:=(Option.bind_some _ _).symm.trans H;with_reducible exact H2_) | with_reducible exact H | (rw [hy267];exact H) | exact H
          have Ny267:=Aside0.mk hy267
          clear hy267
          have H':=Aside0.mk H
          clear H
          try go_wp2
          refine as4_ (Kd.R_drew HO_263001.out) (blk_drew BK261.out) (blk_drew BK262.out) (below_drew1 HB.out) ?_
          clear HO_263001 BK261 BK262 HB
          intro HO_263001 BK261 BK262 HB
          refine start_ (n:=15) (S:=fun w'=>w'.cell? ⟨gb262,0,none⟩=some (.int .i64 a0)∧w'.cell? ⟨gb262,1,none⟩=some (u263001)) (ds:=[14]) #[O,O,O,O,O,O,O,O,O,O,O,O,O,O,O] (by kernel_rfl) rfl rfl (cc2_ BK262.out) (fun hHeld=>?_);refine with_tabW impl_ringNew.tab8 impl_ringNew.bits8 (fun HT_ HW_=>?_)
          generalize wr.drew=w15 at HO_263001 BK261 BK262 HB hHeld ⊢
          refine pu_ 0 20 #[I,O,O,O,O,O,O,O,O,O,O,O,O,O,O] HT_.out ?_
          refine pu_ 2 22 #[I,O,I,O,O,O,O,O,O,O,O,O,O,O,O] HT_.out ?_
          refine pu_ 5 25 #[I,O,I,O,O,I,O,O,O,O,O,O,O,O,O] HT_.out ?_
          refine pu_ 9 29 #[I,O,I,O,O,I,O,O,O,I,O,O,O,O,O] HT_.out ?_
          refine tk2_ 1 21 #[I,I,I,O,O,I,O,O,O,I,O,O,O,O,O] HT_.out HW_.out hHeld ?_
          refine o1_ 3 23 #[I,I,I,I,O,I,O,O,O,I,O,O,O,O,O] HT_.out (fun K hK=>?_)
          refine gs_ Tryd.func65 #[.int .i64 x6_1] ?_
          with_reducible refine (impl_decimal.calls k2 x6_1 t264 _ A9.out).mono ?_
          rintro e w' ⟨rfl,⟨nd,rfl⟩⟩
          refine ⟨_,rfl,?_⟩
          refine hK.out _ _ (cc2_ BK262.out) (fun hHeld=>?_)
          clear hK K
          refine nm_ 23 ?_
          refine pu_ 4 24 #[I,I,I,I,I,I,O,O,O,I,O,O,O,O,O] HT_.out ?_
          refine o1_ 6 26 #[I,I,I,I,I,I,I,O,O,I,O,O,O,O,O] HT_.out (fun K hK=>?_)
          refine gs_ Tryd.func65 #[.int .i64 x7_2] ?_
          with_reducible refine (impl_decimal.calls k2 x7_2 t265 _ A11.out).mono ?_
          rintro e w' ⟨rfl,⟨nd,rfl⟩⟩
          refine ⟨_,rfl,?_⟩
          refine hK.out _ _ (cc2_ BK262.out) (fun hHeld=>?_)
          clear hK K
          refine nm_ 26 ?_
          refine pu_ 7 27 #[I,I,I,I,I,I,I,I,O,I,O,O,O,O,O] HT_.out ?_
          refine o1_ 8 28 #[I,I,I,I,I,I,I,I,I,I,O,O,O,O,O] HT_.out (fun K hK=>?_)
          refine gs_ Tryd.func64 #[.string ((t264 ++ (⟨#[45]⟩:ByteArray)) ++ t265)] ?_
          with_reducible refine (impl_fnv.calls k2 ((t264 ++ (⟨#[45]⟩:ByteArray)) ++ t265) t266 _ A13.out).mono ?_
          rintro e w' ⟨rfl,⟨nd,rfl⟩⟩
          refine ⟨_,rfl,?_⟩
          refine hK.out _ _ (cc2_ BK262.out) (fun hHeld=>?_)
          clear hK K
          refine nm_ 28 ?_
          refine pu_ 10 30 #[I,I,I,I,I,I,I,I,I,I,I,O,O,O,O] HT_.out ?_
          refine o1_ 11 31 #[I,I,I,I,I,I,I,I,I,I,I,I,O,O,O] HT_.out (fun K hK=>?_)
          refine value_ (w1:=?_) (v:=?_) (by rfl) rfl ?_ ?_
          rotate_left 2
          ·go_simp
           constructor
           ·rfl
           ·rfl
          refine hK.out _ _ (cc2_ (blk_alloc BK262.out _)) (fun hHeld=>?_)
          clear hK K
          refine nm_ 31 ?_
          refine o1_ 12 32 #[I,I,I,I,I,I,I,I,I,I,I,I,I,O,O] HT_.out (fun K hK=>?_)
          refine Kd.R_append_step k57 (w0:=w) w.heap.size (by rfl) (.tmp 21) (.tmp 31) 27 57 (.agg #[(.int .i64 0),(.int .i64 0)]) 16 rfl Tryd.underlying27 info57 rfl (by decide) (by omega) u263001 x263001_2 (⟨t266,x6_1⟩:S57) [.int .i64 t266,.int .i64 x6_1] (fun _=>True) (fun _=>False) rfl rfl ?aP (fun _ hk=>hk.elim) ?aF ?aO ?aB ?aS ?aL ?_
          (case aP=>exact k57_mkM _ _ _ (⟨t266,x6_1⟩:S57))
          (case aB=>exact (z7_ HB.out GE261.out GE262.out))
          (case aF=>exact (fun _ _=>trivial))
          (case aO=>exact (z2_ HO_263001.out))
          (case aS=>exact (below_size (z7_ HB.out GE261.out GE262.out)))
          (case aL=>have:=LMc14.out;omega)
          intro v268 w16 ho hb hg hat
          rw [← Ny267.out] at ho
          refine as4_ (blk_grown (g:=gb261) (o:=.cells #[.int .i64 0,.slice none 0 0] 29 (0,0)) (z4_ BK261.out) hg (Kd.R_ne HO_263001.out BK261.out (by decide))) (blk_grown (g:=gb262) (o:=.cells #[.int .i64 a0,u263001] 29 (0,0)) (z4_ BK262.out) hg (Kd.R_ne HO_263001.out BK262.out (by decide))) (hb) (ho) ?_
          clear BK261 BK262 HB HO_263001
          intro BK261 BK262 HB HO269
          clear ho hb hg hat
          obtain ⟨Ao17,co17,eo17⟩:=Kd.R_slice HO269.out
          (first | subst eo17 | (injection eo17 with f1_ f2_ f3_;have f4_:=f1_.symm;have f5_:=f3_.symm;clear f1_ f2_ f3_;subst f4_;subst f5_))
          refine hK.out _ _ (cc2_ BK262.out) (fun hHeld=>?_)
          clear hK K
          refine nm_ 32 ?_
          refine pu_ 13 33 #[I,I,I,I,I,I,I,I,I,I,I,I,I,I,O] HT_.out ?_
          refine last_ (i:=14) (N:=none) #[I,I,I,I,I,I,I,I,I,I,I,I,I,I,I] rfl rfl (one_of HT_.out (by kernel_rfl)) (by decide) (fun K hK=>?_)
          have hs18:w16.cell? ⟨gb262,1,none⟩=some (u263001):=(blk_cell BK262.out 1).trans rfl
          have hfs18:=blk_frozen BK262.out 1
          have hns18_0:=NB261_262.out
          have hms18_0:=NB262_261.out
          refine skip_ (w1:=?_) (by rfl) rfl ?_ ?_
          rotate_left
          ·go_simp
           rfl
          refine hK.out _ _ ?_
          clear hK K
          refine done_ (done_of HT_.out (by kernel_rfl)) ?_
          try go_wp2
          go_roundg k2
          case measure=>have:=HK1.out;have:=HK2.out;omega
          case rel=>exact ⟨(wrap64 (x7_2+1)),(y267),(.slice Ao17 y267.length co17),(z1_),H',⟨z13_ HK1.out HK2.out⟩,⟨by (with_reducible repeat (first | apply Kd.R_alloc | apply Kd.R_drewN | apply Kd.R_drew));exact Kd.R_mono (Kd.R_far (p:=⟨gb262,1,none⟩) (Kd.R_types HO269.out BK262.out (by decide)) (fun _ hk=>hk.2) (.slice Ao17 y267.length co17)) (fun _ hk=>trivial)⟩,⟨z22_ NB261_262.out BK261.out⟩,⟨by (with_reducible repeat (first | refine blk_drewN ?_ _ | refine blk_drew ?_ | refine blk_alloc ?_ _));refine blk_put (cs:=#[.int .i64 a0,u263001]) ?_ 1 _ rfl;(with_reducible repeat (first | refine blk_drewN ?_ _ | refine blk_drew ?_ | refine blk_alloc ?_ _));exact BK262.out⟩,⟨z7_ HB.out GE261.out GE262.out⟩⟩
         ·rw [if_neg c14] at H
          exact absurd H (by simp)
        ·rw [if_neg c12] at H
         exact absurd H (by simp)
       ·rw [if_neg c10] at H
        exact absurd H (by simp)
      ·rw [if_neg c8] at H
       have c8b0:decide (x7_2≤a1)=false:=decide_eq_false c8
       clear c8
       have H':=Aside0.mk H
       clear H
       go_wp2
       go_roundg k2
       case measure=>have:=HK1.out;have:=HK2.out;omega
       case rel=>exact ⟨(wrap64 (x6_1+1)),(x263001_2),(u263001),(z1_),H',⟨z13_ HK1.out HK2.out⟩,⟨z2_ HO_263001.out⟩,⟨z4_ BK261.out⟩,⟨z4_ BK262.out⟩,⟨z7_ HB.out GE261.out GE262.out⟩⟩
   ·rw [if_neg c7] at H
    have c7b0:decide (x6_1≤a0)=false:=decide_eq_false c7
    clear c7
    replace H:=Option.bind_eq_some_iff.mp H
    obtain ⟨t263,A190,H⟩:=H
    replace H:(some (a0,t263))=some (r1,r2):=H
    have A19:=Aside0.mk A190
    clear A190
    simp only [Option.some.injEq,Prod.mk.injEq] at H
    obtain ⟨rfl,rfl⟩:=H
    have hnb20:=NB262_261.out
    have hnc20:=NB261_262.out
    have ⟨hcz21_0,hcz21_1,hfz21_0,hfz21_1⟩:=cz2_ BK262.out
    obtain ⟨Ao22,co22,eo22⟩:=Kd.R_slice HO_263001.out
    subst eo22
    go_wp2_with (first | ((with_reducible refine gc_ 66 ?_);refine gl_ (some 36) Tryd.func66 #[.slice Ao22 x263001_1.length co22,.func (.func 67) #[] #[]] ?_;(with_reducible refine (slices_SortFunc_impl_Token_impl_Token_impl_ringNew_1.calls k1 (fun k_=>some k_=(.slice Ao22 x263001_1.length co22:Value).ownBlock) (.slice Ao22 x263001_1.length co22) x263001_1  t263 w _ ?s1 ?s2 A19.out).mono ?_);(case s1=>repeat (first | (with_reducible first | exact HB.out | apply below_alloc | apply pw_below_drewN | apply below_drew1 | refine below_set ?_ GE261.out | refine below_set ?_ GE262.out) | exact HB.out));(case s2=>exact Kd.R_tight rfl HO_263001.out);rintro e w23 ⟨rfl,hy0,hb,hkp⟩;refine ⟨_,rfl,?_⟩;refine as4_ (Kd.R_reok rfl hy0 (fun k_ e_=>HO_263001.out.1 k_ e_)) (blk_kept (z4_ BK261.out) hkp (fun hs_=>(fun e_=>(Kd.R_ne HO_263001.out BK261.out (by decide)) e_) hs_)) (blk_kept (z4_ BK262.out) hkp (fun hs_=>(fun e_=>(Kd.R_ne HO_263001.out BK262.out (by decide)) e_) hs_)) (hb) ?_;clear HO_263001 BK261 BK262 HB;intro HO_263001 BK261 BK262 HB;(try clear hb);(try clear hkp);(try clear hy0);have ⟨hcz24_0,hcz24_1,hfz24_0,hfz24_1⟩:=cz2_ BK262.out;have ⟨hcz25_0,hcz25_1,hfz25_0,hfz25_1⟩:=cz2_ BK261.out))
    refine bodyPost_ret (results_cell_row rfl _ _ gb261 29 #[.int .i64 a0,.slice Ao22 x263001_1.length co22] (0,0) _ rfl (z23_ BK261.out) Tryd.underlying29 rfl (by kernel_rfl)) rfl ?_
    exact ⟨_,z10_,z38_ HO_263001.out BK261.out,z7_ HB.out GE261.out GE262.out⟩


attribute [local go_sem high] eqA57
/-! ### slices_Equal_impl_Token_impl_Token: function 41 -/
def slices_Equal_impl_Token_impl_Token.l0:Nat→List (S57)→List (S57)→Int→Int→Option (Bool)
 | 0,_,_,_,_=>none
 | k+1,x0,x1,x12,x13=>if x13<x12 then (if 0≤x13 then (if x13<(x0.length:Int) then (if x13<(x1.length:Int) then (if (!(((rd_T57 x0 x13).f0) == ((rd_T57 x1 x13).f0)) || (!(((rd_T57 x0 x13).f1) == ((rd_T57 x1 x13).f1))))=true then (some false) else (slices_Equal_impl_Token_impl_Token.l0 k x0 x1 x12 (wrap64 (x13+1)))) else (none)) else (none)) else (none)) else (some true)
def slices_Equal_impl_Token_impl_Token.f (k:Nat) (l0:List (S57)) (l1:List (S57)):Option (Bool):=if (l0.length:Int)=(l1.length:Int) then (slices_Equal_impl_Token_impl_Token.l0 k l0 l1 (l0.length:Int) 0) else (some false)
theorem slices_Equal_impl_Token_impl_Token.mono_l:∀ k,(∀ y0 y1 y2 y3,LeO (slices_Equal_impl_Token_impl_Token.l0 k y0 y1 y2 y3) (slices_Equal_impl_Token_impl_Token.l0 (k+1) y0 y1 y2 y3))
 | 0=>fun _ _ _ _ r h=>by simp [slices_Equal_impl_Token_impl_Token.l0] at h
 | k+1=>by
  have ih0:=slices_Equal_impl_Token_impl_Token.mono_l k
  ·intro y0 y1 y2 y3
   unfold slices_Equal_impl_Token_impl_Token.l0
   repeat' first
   | (with_reducible exact ih0 _ _ _ _)
   | (with_reducible exact LeO.refl _)
   | (with_reducible exact LeO.none _)
   | (with_reducible refine LeO.ite ?_ ?_)
   | (with_reducible refine LeO.bind ?_ (fun _=>?_))
   | exact ih0 _ _ _ _
   | exact LeO.none _
   | refine LeO.ite ?_ ?_
   | refine LeO.bind ?_ (fun _=>?_)
theorem slices_Equal_impl_Token_impl_Token.mono:∀ a0 a1 k,LeO (slices_Equal_impl_Token_impl_Token.f k a0 a1) (slices_Equal_impl_Token_impl_Token.f (k+1) a0 a1):=by
 intro a0 a1 k
 have ih0:=slices_Equal_impl_Token_impl_Token.mono_l k
 unfold slices_Equal_impl_Token_impl_Token.f
 repeat' first
   | (with_reducible exact ih0 _ _ _ _)
   | (with_reducible exact LeO.refl _)
   | (with_reducible exact LeO.none _)
   | (with_reducible refine LeO.ite ?_ ?_)
   | (with_reducible refine LeO.bind ?_ (fun _=>?_))
   | exact ih0 _ _ _ _
   | exact LeO.none _
   | refine LeO.ite ?_ ?_
   | refine LeO.bind ?_ (fun _=>?_)
set_option maxHeartbeats 8000000 in
set_option maxRecDepth 100000 in
theorem slices_Equal_impl_Token_impl_Token.calls (k:Nat) (A0:Option Addr) (c0:Nat) (l0:List (S57)) (A1:Option Addr) (c1:Nat) (l1:List (S57)) (r:Bool) (w:World) (hr0:Kd.C k57 w A0 l0.length l0) (hc0:l0.length≤c0) (hr1:Kd.C k57 w A1 l1.length l1) (hc1:l1.length≤c1) (h:slices_Equal_impl_Token_impl_Token.f k l0 l1=some r) :
  Calls Tryd.prog 41 #[.slice A0 l0.length c0,.slice A1 l1.length c1] w fun e w'=>e = .returned (.bool r)∧Drawn0 w w':=by
 have hu57:=Tryd.underlying57
 have HR0:=Aside0.mk hr0
 have HC0:=Aside0.mk hc0
 clear hr0 hc0
 have HR1:=Aside0.mk hr1
 have HC1:=Aside0.mk hc1
 clear hr1 hc1
 have H:(if (l0.length:Int)=(l1.length:Int) then (slices_Equal_impl_Token_impl_Token.l0 k l0 l1 (l0.length:Int) 0) else (some false))=some r:=h
 clear h
 by_cases c3:(l0.length:Int)=(l1.length:Int)
 ·rw [if_pos c3] at H
  have c3b0:((l0.length:Int) == (l1.length:Int))=true:=beq_iff_eq.mpr c3
  have c3b1:((l0.length:Int) != (l1.length:Int))=false:=bne_eq_false_iff_eq.mpr c3
  have c3b2:(l0.length == l1.length)=true:=by first | simpa using c3 | (simp at c3 ⊢;omega)
  clear c3
  have H':=Aside0.mk H
  clear H
  go_enter Tryd.func41,Tryd.ntmps41
  go_wp2
  repeat (go_quiet (fail);try go_wp2)
  go_loopg [13] k (fun kq v13 w'=>∃ (x13_1:Int),v13 = .int .i64 x13_1∧Aside0 (slices_Equal_impl_Token_impl_Token.l0 kq l0 l1 (l0.length:Int) x13_1=some r)∧Aside0 (kq≤k)∧Drawn0 w w')
  case atStart=>exact ⟨(0),(z1_),H',⟨Nat.le_refl _⟩,z6_⟩
  case round =>
   clear H'
   try clear c1
   try clear p2
   try clear c3
   try clear c3b0
   try clear c3b1
   try clear c3b2
   obtain ⟨x13_1,rfl,HA,HK1,⟨m1,rfl⟩⟩:=hrel
   cases gk with
   | zero=>exact absurd HA.out (by simp [slices_Equal_impl_Token_impl_Token.l0])
   | succ k1 =>
    have H:=HA.out
    clear HA
    simp only [slices_Equal_impl_Token_impl_Token.l0] at H
    by_cases c4:x13_1<(l0.length:Int)
    ·rw [if_pos c4] at H
     have c4b0:decide (x13_1<(l0.length:Int))=true:=decide_eq_true c4
     clear c4
     by_cases c5:0≤x13_1
     ·rw [if_pos c5] at H
      have c5b0:decide (0≤x13_1)=true:=decide_eq_true c5
      clear c5
      by_cases c6:x13_1<(l0.length:Int)
      ·rw [if_pos c6] at H
       have c6b0:decide (x13_1<(l0.length:Int))=true:=decide_eq_true c6
       clear c6
       by_cases c7:x13_1<(l1.length:Int)
       ·rw [if_pos c7] at H
        have c7b0:decide (x13_1<(l1.length:Int))=true:=decide_eq_true c7
        clear c7
        by_cases c8:(!(((rd_T57 l0 x13_1).f0) == ((rd_T57 l1 x13_1).f0)) || (!(((rd_T57 l0 x13_1).f1) == ((rd_T57 l1 x13_1).f1))))=true
        ·rw [if_pos c8] at H
         have c8b0:(!(((rd_T57 l0 x13_1).f0) == ((rd_T57 l1 x13_1).f0)) || (!(((rd_T57 l0 x13_1).f1) == ((rd_T57 l1 x13_1).f1))))=true:=c8
         clear c8
         obtain rfl:=Option.some.inj H
         have p165:0≤(x13_1:Int):=of_decide_eq_true (z0_)
         have q165:x13_1<(l0.length:Int):=of_decide_eq_true (z0_)
         obtain ⟨ad165,e165,hx165_0,hx165_1⟩:=at_T57 HR0.out x13_1 p165 q165
         cases e165
         replace p165:=eq_true p165
         replace q165:=eq_true q165
         have p166:0≤(x13_1:Int):=of_decide_eq_true (z0_)
         have q166:x13_1<(l1.length:Int):=of_decide_eq_true (z0_)
         obtain ⟨ad166,e166,hx166_0,hx166_1⟩:=at_T57 HR1.out x13_1 p166 q166
         cases e166
         replace p166:=eq_true p166
         replace q166:=eq_true q166
         go_wp2
         repeat (go_quiet (fail);try go_wp2)
         go_ret
         exact ⟨z1_,z6_⟩
        ·rw [if_neg c8] at H
         have c8b0:(!(((rd_T57 l0 x13_1).f0) == ((rd_T57 l1 x13_1).f0)) || (!(((rd_T57 l0 x13_1).f1) == ((rd_T57 l1 x13_1).f1))))=false:=by simpa using c8
         clear c8
         have H':=Aside0.mk H
         clear H
         have p165:0≤(x13_1:Int):=of_decide_eq_true (z0_)
         have q165:x13_1<(l0.length:Int):=of_decide_eq_true (z0_)
         obtain ⟨ad165,e165,hx165_0,hx165_1⟩:=at_T57 HR0.out x13_1 p165 q165
         cases e165
         replace p165:=eq_true p165
         replace q165:=eq_true q165
         have p166:0≤(x13_1:Int):=of_decide_eq_true (z0_)
         have q166:x13_1<(l1.length:Int):=of_decide_eq_true (z0_)
         obtain ⟨ad166,e166,hx166_0,hx166_1⟩:=at_T57 HR1.out x13_1 p166 q166
         cases e166
         replace p166:=eq_true p166
         replace q166:=eq_true q166
         go_wp2
         repeat (go_quiet (fail);try go_wp2)
         go_roundg k1
         case measure=>have:=HK1.out;omega
         case rel=>exact ⟨(wrap64 (x13_1+1)),(z1_),H',⟨by have:=HK1.out;omega⟩,z6_⟩
       ·rw [if_neg c7] at H
        exact absurd H (by simp)
      ·rw [if_neg c6] at H
       exact absurd H (by simp)
     ·rw [if_neg c5] at H
      exact absurd H (by simp)
    ·rw [if_neg c4] at H
     have c4b0:decide (x13_1<(l0.length:Int))=false:=decide_eq_false c4
     clear c4
     obtain rfl:=Option.some.inj H
     go_wp2
     repeat (go_quiet (fail);try go_wp2)
     go_ret
     exact ⟨z1_,z6_⟩
 ·rw [if_neg c3] at H
  have c3b0:((l0.length:Int) == (l1.length:Int))=false:=beq_eq_false_iff_ne.mpr c3
  have c3b1:((l0.length:Int) != (l1.length:Int))=true:=bne_iff_ne.mpr c3
  have c3b2:(l0.length == l1.length)=false:=by first | simpa using c3 | (simp at c3 ⊢;omega)
  obtain rfl:=Option.some.inj H
  go_enter Tryd.func41,Tryd.ntmps41
  go_wp2
  repeat (go_quiet (fail);try go_wp2)
  go_ret
  exact ⟨z1_,z6_⟩


/-! ### impl_RingRight: function 13 -/
def impl_RingRight.f (k:Nat) (a0_0:Int) (l0_1:List (S57)):Option (Bool):=(impl_isNode.f a0_0).bind fun t271=>(if t271=true then (if a0_0=0 then (none) else ((impl_within.f (wrap64 ((l0_1.length:Int) / a0_0)) 1 8).bind fun t272=>(if t272=true then ((impl_ringNew.f k a0_0 (wrap64 ((l0_1.length:Int) / a0_0))).bind fun bt273=>((slices_Equal_impl_Token_impl_Token.f k l0_1 bt273.2).bind fun t277=>(some t277))) else (some false)))) else (some false))
theorem impl_RingRight.mono:∀ a0 a1 k,LeO (impl_RingRight.f k a0 a1) (impl_RingRight.f (k+1) a0 a1):=by
 intro a0 a1 k
 unfold impl_RingRight.f
 repeat' first
   | (with_reducible exact impl_ringNew.mono _ _ _)
   | (with_reducible exact slices_Equal_impl_Token_impl_Token.mono _ _ _)
   | (with_reducible exact LeO.refl _)
   | (with_reducible exact LeO.none _)
   | (with_reducible refine LeO.ite ?_ ?_)
   | (with_reducible refine LeO.bind ?_ (fun _=>?_))
   | exact impl_ringNew.mono _ _ _
   | exact slices_Equal_impl_Token_impl_Token.mono _ _ _
   | exact LeO.none _
   | refine LeO.ite ?_ ?_
   | refine LeO.bind ?_ (fun _=>?_)
def impl_RingRight.T4:Bool × List (List Nat × List Nat):=(true,[([],[]),([0],[0]),([1,1],[1]),([2],[2]),([3,2],[2,3]),([2],[2]),([5,2],[2,5]),([2],[2]),([6,7,2,2],[2,6,7]),([8,2],[2,8]),([4,9,8,2],[2,4,9]),([2,10],[2,10]),([11,10,0,1,2,3,4,5,6,7,8,9,10,11],[11])])
def impl_RingRight.B4:List Nat:=[0,1,3,7,15,7,39,7,231,487,1023,2047,4095]
theorem impl_RingRight.tab4:rtab .any (opsOf Tryd.f13 4)=impl_RingRight.T4:=by kernel_rfl
theorem impl_RingRight.bits4:waitsOk impl_RingRight.T4.2 impl_RingRight.B4=true:=by kernel_rfl
abbrev impl_RingRight.q0:Array Bool:=#[O,O,O,O,O,O,O,O,O,O,O,O,O]
abbrev impl_RingRight.q1:Array Bool:=#[I,O,O,O,O,O,O,O,O,O,O,O,O]
abbrev impl_RingRight.q2:Array Bool:=#[I,I,O,O,O,O,O,O,O,O,O,O,O]
abbrev impl_RingRight.q3:Array Bool:=#[I,I,I,O,O,O,O,O,O,O,O,O,O]
abbrev impl_RingRight.q4:Array Bool:=#[I,I,I,I,O,O,O,O,O,O,O,O,O]
abbrev impl_RingRight.q5:Array Bool:=#[I,I,I,I,I,I,I,I,O,O,O,O,O]
abbrev impl_RingRight.q6:Array Bool:=#[I,I,I,I,I,I,I,I,I,O,O,O,O]
abbrev impl_RingRight.q7:Array Bool:=#[I,I,I,I,I,I,I,I,I,I,O,O,O]
abbrev impl_RingRight.q8:Array Bool:=#[I,I,I,I,I,I,I,I,I,I,I,O,O]
abbrev impl_RingRight.q9:Array Bool:=#[I,I,I,I,I,I,I,I,I,I,I,I,O]
abbrev impl_RingRight.q10:Array Bool:=#[I,I,I,I,I,I,I,I,I,I,I,I,I]
set_option maxHeartbeats 8000000 in
set_option maxRecDepth 100000 in
theorem impl_RingRight.calls (k:Nat) (a0_0:Int) (A0_1:Option Addr) (c0_1:Nat) (l0_1:List (S57)) (r:Bool) (w:World) (hr0_1:Kd.C k57 w A0_1 l0_1.length l0_1) (hc0_1:l0_1.length≤c0_1) (h:impl_RingRight.f k a0_0 l0_1=some r) :
  Calls Tryd.prog 13 #[.agg #[.int .i64 a0_0,.slice A0_1 l0_1.length c0_1]] w fun e w'=>e = .returned (.bool r)∧Below w.heap.size w w':=by
 have hu29:=Tryd.underlying29
 have hfd29:∀ (a:Int) (v:Value) (w:World),(Instr.field 29 (.agg #[.int .i64 a,v]) 1).run Tryd.prog w = .ok v w:=fun _ _ _=>by kernel_rfl
 have HR0_1:=Aside0.mk hr0_1
 have HC0_1:=Aside0.mk hc0_1
 clear hr0_1 hc0_1
 have HB:=Aside0.mk (Below.refl w.heap.size w)
 have H:((impl_isNode.f a0_0).bind fun t271=>(if t271=true then (if a0_0=0 then (none) else ((impl_within.f (wrap64 ((l0_1.length:Int) / a0_0)) 1 8).bind fun t272=>(if t272=true then ((impl_ringNew.f k a0_0 (wrap64 ((l0_1.length:Int) / a0_0))).bind fun bt273=>((slices_Equal_impl_Token_impl_Token.f k l0_1 bt273.2).bind fun t277=>(some t277))) else (some false)))) else (some false)))=some r:=h
 clear h
 replace H:=Option.bind_eq_some_iff.mp H
 obtain ⟨t271,A20,H⟩:=H
 replace H:(if t271=true then (if a0_0=0 then (none) else ((impl_within.f (wrap64 ((l0_1.length:Int) / a0_0)) 1 8).bind fun t272=>(if t272=true then ((impl_ringNew.f k a0_0 (wrap64 ((l0_1.length:Int) / a0_0))).bind fun bt273=>((slices_Equal_impl_Token_impl_Token.f k l0_1 bt273.2).bind fun t277=>(some t277))) else (some false)))) else (some false))=some r:=H
 have A2:=Aside0.mk A20
 clear A20
 by_cases c3:t271=true
 ·subst c3
  have H1:(if a0_0=0 then (none) else ((impl_within.f (wrap64 ((l0_1.length:Int) / a0_0)) 1 8).bind fun t272=>(if t272=true then ((impl_ringNew.f k a0_0 (wrap64 ((l0_1.length:Int) / a0_0))).bind fun bt273=>((slices_Equal_impl_Token_impl_Token.f k l0_1 bt273.2).bind fun t277=>(some t277))) else (some false))))=some r:=by rw [if_pos rfl] at H;exact H
  clear H
  have H:=H1
  clear H1
  by_cases c4:a0_0=0
  ·rw [if_pos c4] at H
   exact absurd H (by simp)
  ·rw [if_neg c4] at H
   have c4b0:(a0_0 == 0)=false:=beq_eq_false_iff_ne.mpr c4
   have c4b1:(a0_0 != 0)=true:=bne_iff_ne.mpr c4
   replace H:=Option.bind_eq_some_iff.mp H
   obtain ⟨t272,A50,H⟩:=H
   replace H:(if t272=true then ((impl_ringNew.f k a0_0 (wrap64 ((l0_1.length:Int) / a0_0))).bind fun bt273=>((slices_Equal_impl_Token_impl_Token.f k l0_1 bt273.2).bind fun t277=>(some t277))) else (some false))=some r:=H
   have A5:=Aside0.mk A50
   clear A50
   by_cases c6:t272=true
   ·subst c6
    have H1:((impl_ringNew.f k a0_0 (wrap64 ((l0_1.length:Int) / a0_0))).bind fun bt273=>((slices_Equal_impl_Token_impl_Token.f k l0_1 bt273.2).bind fun t277=>(some t277)))=some r:=by rw [if_pos rfl] at H;exact H
    clear H
    have H:=H1
    clear H1
    replace H:=Option.bind_eq_some_iff.mp H
    obtain ⟨⟨t273,t274⟩,A70,H⟩:=H
    replace H:((slices_Equal_impl_Token_impl_Token.f k l0_1 t274).bind fun t277=>(some t277))=some r:=H
    have A7:=Aside0.mk A70
    clear A70
    replace H:=Option.bind_eq_some_iff.mp H
    obtain ⟨t277,A80,H⟩:=H
    replace H:(some t277)=some r:=H
    have A8:=Aside0.mk A80
    clear A80
    obtain rfl:=Option.some.inj H
    go_enter Tryd.func13,Tryd.ntmps13
    try go_wp2_with (first | ((with_reducible refine gd_ 1 ?_);refine be_ 1 #[.int .i64 a0_0,.slice A0_1 l0_1.length c0_1] 29 ?_;intro gb270 hg w9 hbox hb;refine as4_ (below_step (z3_ HB.out) hb) (hbox) ((z8_ HB.out:w.heap.size≤gb270)) ((z8_ HB.out:w.heap.size≤gb270)) ?_;clear HB;intro HB BK270 GW270 GE270;clear hb hbox hg;have ⟨hcz10_0,hcz10_1,hfz10_0,hfz10_1⟩:=cz2_ BK270.out) | ((with_reducible refine gc_ 39 ?_);refine gl_ (some 6) Tryd.func39 #[.int .i64 a0_0] ?_;(with_reducible refine (impl_isNode.calls a0_0 true _ A2.out).mono ?_);rintro e w' ⟨rfl,⟨nd,rfl⟩⟩;refine ⟨_,rfl,?_⟩))
    (try (rw [drewN_self w9];generalize hq_:World.drewN w9 _=w9;have n0_:Aside0 (w9.heap[gb270]? = some (.cells #[.int .i64 a0_0,.slice A0_1 l0_1.length c0_1] 29 (0,0))):=⟨z35_ BK270.out⟩;have n1_:Aside0 (Below w.heap.size w w9):=⟨by rw [← hq_];exact (by repeat (first | (with_reducible first | exact HB.out | apply below_alloc | apply pw_below_drewN | apply below_drew1 | refine below_set ?_ GE270.out) | exact HB.out))⟩;clear BK270 HB hq_;have BK270:=n0_;have HB:=n1_;clear n0_ n1_))
    refine as2_ (blk_drew BK270.out) (below_drew1 HB.out) ?_
    clear BK270 HB
    intro BK270 HB
    refine start_ (n:=13) (S:=fun w'=>w'.cell? ⟨gb270,0,none⟩=some (.int .i64 a0_0)∧w'.cell? ⟨gb270,1,none⟩=some (.slice A0_1 l0_1.length c0_1)) (ds:=[]) impl_RingRight.q0 (by kernel_rfl) rfl rfl (cc2_ BK270.out) (fun hHeld=>?_);refine with_tabW impl_RingRight.tab4 impl_RingRight.bits4 (fun HT_ HW_=>?_)
    generalize w9.drew=w11 at BK270 HB hHeld ⊢
    refine pu_ 0 14 impl_RingRight.q1 HT_.out ?_
    refine o1_ 1 15 impl_RingRight.q2 HT_.out (fun K hK=>?_)
    refine gs_ Tryd.func40 #[.int .i64 (wrap64 ((l0_1.length:Int) / a0_0)),.int .i64 1,.int .i64 8] ?_
    with_reducible refine (impl_within.calls (wrap64 ((l0_1.length:Int) / a0_0)) 1 8 true _ A5.out).mono ?_
    rintro e w' ⟨rfl,⟨nd,rfl⟩⟩
    refine ⟨_,rfl,?_⟩
    refine hK.out _ _ (cc2_ BK270.out) (fun hHeld=>?_)
    clear hK K
    refine nm_ 15 ?_
    refine pu_ 2 16 impl_RingRight.q3 HT_.out ?_
    refine pu_ 3 17 impl_RingRight.q4 HT_.out ?_
    refine pu_ 5 19 #[I,I,I,I,O,I,O,O,O,O,O,O,O] HT_.out ?_
    refine pu_ 7 21 #[I,I,I,I,O,I,O,I,O,O,O,O,O] HT_.out ?_
    refine tk2_ 4 18 #[I,I,I,I,I,I,O,I,O,O,O,O,O] HT_.out HW_.out hHeld ?_
    refine tk2_ 6 20 impl_RingRight.q5 HT_.out HW_.out hHeld ?_
    refine o1_ 8 22 impl_RingRight.q6 HT_.out (fun K hK=>?_)
    refine gs_ Tryd.func42 #[.int .i64 a0_0,.int .i64 (wrap64 ((l0_1.length:Int) / a0_0))] ?_
    with_reducible refine (impl_ringNew.calls k a0_0 (wrap64 ((l0_1.length:Int) / a0_0)) t273 t274 _ A7.out).mono ?_
    rintro e w12 ⟨v275,rfl,ho0,hb⟩
    refine ⟨_,rfl,?_⟩
    refine as3_ (Kd.R_lower ho0 (below_size (z5_ HB.out GE270.out))) (blkB_ BK270.out hb) (below_step (z5_ HB.out GE270.out) hb) ?_
    clear BK270 HB
    intro HO276 BK270 HB
    (try clear hb)
    (try clear ho0)
    obtain ⟨Ao13,co13,eo13⟩:=Kd.R_slice HO276.out
    (first | subst eo13 | (injection eo13 with f1_ f2_ f3_;have f4_:=f1_.symm;have f5_:=f3_.symm;clear f1_ f2_ f3_;subst f4_;subst f5_))
    refine hK.out _ _ (cc2_ BK270.out) (fun hHeld=>?_)
    clear hK K
    refine nm_ 22 ?_
    refine pu_ 9 23 impl_RingRight.q7 HT_.out ?_
    refine o1_ 10 24 impl_RingRight.q8 HT_.out (fun K hK=>?_)
    refine gs_ Tryd.func41 #[.slice A0_1 l0_1.length c0_1,.slice Ao13 t274.length co13] ?_
    with_reducible refine (slices_Equal_impl_Token_impl_Token.calls k _ _ l0_1 _ _ t274 t277 _ ?s1 ?s2 ?s3 ?s4 A8.out).mono ?_
    (case s1=>repeat (first | exact (Kd.C_below HR0_1.out HB.out) | (with_reducible refine Kd.C_alloc ?_ _) | (with_reducible refine Kd.C_drewN ?_ _) | (with_reducible refine Kd.C_drew ?_)))
    (case s2=>exact HC0_1.out)
    (case s3=>repeat (first | exact (Kd.R_reads' HO276.out).2.2 | (with_reducible refine Kd.C_alloc ?_ _) | (with_reducible refine Kd.C_drewN ?_ _) | (with_reducible refine Kd.C_drew ?_)))
    (case s4=>exact (Kd.R_reads' HO276.out).2.1)
    rintro e w' ⟨rfl,⟨nd,rfl⟩⟩
    refine ⟨_,rfl,?_⟩
    refine hK.out _ _ (cc2_ BK270.out) (fun hHeld=>?_)
    clear hK K
    refine nm_ 24 ?_
    refine pu_ 11 25 impl_RingRight.q9 HT_.out ?_
    refine pu_ 12 2 impl_RingRight.q10 HT_.out ?_
    refine done_ (done_of HT_.out (by kernel_rfl)) ?_
    try go_wp2
    go_ret
    exact ⟨z10_,z5_ HB.out GE270.out⟩
   ·replace c6:=Bool.eq_false_iff.mpr c6
    subst c6
    have H1:(some false)=some r:=by rw [if_neg (show ¬ (false=true) by decide)] at H;exact H
    clear H
    have H:=H1
    clear H1
    obtain rfl:=Option.some.inj H
    go_enter Tryd.func13,Tryd.ntmps13
    try go_wp2_with (first | ((with_reducible refine gd_ 1 ?_);refine be_ 1 #[.int .i64 a0_0,.slice A0_1 l0_1.length c0_1] 29 ?_;intro gb270 hg w14 hbox hb;refine as4_ (below_step (z3_ HB.out) hb) (hbox) ((z8_ HB.out:w.heap.size≤gb270)) ((z8_ HB.out:w.heap.size≤gb270)) ?_;clear HB;intro HB BK270 GW270 GE270;clear hb hbox hg;have ⟨hcz15_0,hcz15_1,hfz15_0,hfz15_1⟩:=cz2_ BK270.out) | ((with_reducible refine gc_ 39 ?_);refine gl_ (some 6) Tryd.func39 #[.int .i64 a0_0] ?_;(with_reducible refine (impl_isNode.calls a0_0 true _ A2.out).mono ?_);rintro e w' ⟨rfl,⟨nd,rfl⟩⟩;refine ⟨_,rfl,?_⟩))
    (try (rw [drewN_self w14];generalize hq_:World.drewN w14 _=w14;have n0_:Aside0 (w14.heap[gb270]? = some (.cells #[.int .i64 a0_0,.slice A0_1 l0_1.length c0_1] 29 (0,0))):=⟨z35_ BK270.out⟩;have n1_:Aside0 (Below w.heap.size w w14):=⟨by rw [← hq_];exact (by repeat (first | (with_reducible first | exact HB.out | apply below_alloc | apply pw_below_drewN | apply below_drew1 | refine below_set ?_ GE270.out) | exact HB.out))⟩;clear BK270 HB hq_;have BK270:=n0_;have HB:=n1_;clear n0_ n1_))
    refine as2_ (blk_drew BK270.out) (below_drew1 HB.out) ?_
    clear BK270 HB
    intro BK270 HB
    refine start_ (n:=13) (S:=fun w'=>True) (ds:=[]) impl_RingRight.q0 (by kernel_rfl) rfl rfl trivial (fun hHeld=>?_);refine with_tabW impl_RingRight.tab4 impl_RingRight.bits4 (fun HT_ HW_=>?_)
    generalize w14.drew=w16 at BK270 HB hHeld ⊢
    refine pu_ 0 14 impl_RingRight.q1 HT_.out ?_
    refine o1_ 1 15 impl_RingRight.q2 HT_.out (fun K hK=>?_)
    refine gs_ Tryd.func40 #[.int .i64 (wrap64 ((l0_1.length:Int) / a0_0)),.int .i64 1,.int .i64 8] ?_
    with_reducible refine (impl_within.calls (wrap64 ((l0_1.length:Int) / a0_0)) 1 8 false _ A5.out).mono ?_
    rintro e w' ⟨rfl,⟨nd,rfl⟩⟩
    refine ⟨_,rfl,?_⟩
    refine hK.out _ _ trivial (fun hHeld=>?_)
    clear hK K
    refine nm_ 15 ?_
    refine pu_ 2 16 impl_RingRight.q3 HT_.out ?_
    refine pn_ 3 17 impl_RingRight.q4 HT_.out ?_
    refine pn_ 4 18 #[I,I,I,I,I,O,O,O,O,O,O,O,O] HT_.out ?_
    refine pn_ 5 19 #[I,I,I,I,I,I,O,O,O,O,O,O,O] HT_.out ?_
    refine pn_ 6 20 #[I,I,I,I,I,I,I,O,O,O,O,O,O] HT_.out ?_
    refine pn_ 7 21 impl_RingRight.q5 HT_.out ?_
    refine pn_ 8 22 impl_RingRight.q6 HT_.out ?_
    refine pn_ 9 23 impl_RingRight.q7 HT_.out ?_
    refine pn_ 10 24 impl_RingRight.q8 HT_.out ?_
    refine pu_ 11 25 impl_RingRight.q9 HT_.out ?_
    refine pu_ 12 2 impl_RingRight.q10 HT_.out ?_
    refine done_ (done_of HT_.out (by kernel_rfl)) ?_
    try go_wp2
    go_ret
    exact ⟨z10_,z5_ HB.out GE270.out⟩
 ·replace c3:=Bool.eq_false_iff.mpr c3
  subst c3
  have H1:(some false)=some r:=by rw [if_neg (show ¬ (false=true) by decide)] at H;exact H
  clear H
  have H:=H1
  clear H1
  obtain rfl:=Option.some.inj H
  go_enter Tryd.func13,Tryd.ntmps13
  go_wp2_with (first | ((with_reducible refine gd_ 1 ?_);refine be_ 1 #[.int .i64 a0_0,.slice A0_1 l0_1.length c0_1] 29 ?_;intro gb270 hg w17 hbox hb;refine as4_ (below_step (z3_ HB.out) hb) (hbox) ((z8_ HB.out:w.heap.size≤gb270)) ((z8_ HB.out:w.heap.size≤gb270)) ?_;clear HB;intro HB BK270 GW270 GE270;clear hb hbox hg;have ⟨hcz18_0,hcz18_1,hfz18_0,hfz18_1⟩:=cz2_ BK270.out) | ((with_reducible refine gc_ 39 ?_);refine gl_ (some 6) Tryd.func39 #[.int .i64 a0_0] ?_;(with_reducible refine (impl_isNode.calls a0_0 false _ A2.out).mono ?_);rintro e w' ⟨rfl,⟨nd,rfl⟩⟩;refine ⟨_,rfl,?_⟩))
  go_ret
  exact ⟨z10_,z5_ HB.out GE270.out⟩


/-! ### impl_isLong_1: function 86 -/
def impl_isLong_1.f (a0:ByteArray):Option (Bool):=some (decide ((a0.size:Int)>8000))
set_option maxHeartbeats 8000000 in
set_option maxRecDepth 100000 in
theorem impl_isLong_1.calls (a0:ByteArray) (r:Bool) (w:World) (h:impl_isLong_1.f a0=some r) :
  Calls Tryd.prog 86 #[.string a0] w fun e w'=>e = .returned (.bool r)∧Drawn0 w w':=by
 have H:(some (decide ((a0.size:Int)>8000)))=some r:=h
 clear h
 obtain rfl:=Option.some.inj H
 go_enter Tryd.func86,Tryd.ntmps86
 go_wp2
 go_ret
 exact ⟨z1_,z6_⟩


/-! ### slices_IndexFunc_string_string_impl_isLong_1: function 101 -/
def slices_IndexFunc_string_string_impl_isLong_1.l0:Nat→List ByteArray→Int→Int→Option (Int)
 | 0,_,_,_=>none
 | k+1,x0,x7,x8=>if x8<x7 then (if 0≤x8 then (if x8<(x0.length:Int) then ((impl_isLong_1.f (rdOf ByteArray.empty x0 x8)).bind fun t442=>(if t442=true then (some x8) else (slices_IndexFunc_string_string_impl_isLong_1.l0 k x0 x7 (wrap64 (x8+1))))) else (none)) else (none)) else (some (-1))
def slices_IndexFunc_string_string_impl_isLong_1.f (k:Nat) (l0:List ByteArray)  : Option (Int):=slices_IndexFunc_string_string_impl_isLong_1.l0 k l0 (l0.length:Int) 0
theorem slices_IndexFunc_string_string_impl_isLong_1.mono_l:∀ k,(∀ y0 y1 y2,LeO (slices_IndexFunc_string_string_impl_isLong_1.l0 k y0 y1 y2) (slices_IndexFunc_string_string_impl_isLong_1.l0 (k+1) y0 y1 y2))
 | 0=>fun _ _ _ r h=>by simp [slices_IndexFunc_string_string_impl_isLong_1.l0] at h
 | k+1=>by
  have ih0:=slices_IndexFunc_string_string_impl_isLong_1.mono_l k
  ·intro y0 y1 y2
   unfold slices_IndexFunc_string_string_impl_isLong_1.l0
   repeat' first
   | (with_reducible exact ih0 _ _ _)
   | (with_reducible exact LeO.refl _)
   | (with_reducible exact LeO.none _)
   | (with_reducible refine LeO.ite ?_ ?_)
   | (with_reducible refine LeO.bind ?_ (fun _=>?_))
   | exact ih0 _ _ _
   | exact LeO.none _
   | refine LeO.ite ?_ ?_
   | refine LeO.bind ?_ (fun _=>?_)
theorem slices_IndexFunc_string_string_impl_isLong_1.mono:∀ a0 k,LeO (slices_IndexFunc_string_string_impl_isLong_1.f k a0) (slices_IndexFunc_string_string_impl_isLong_1.f (k+1) a0):=by
 intro a0 k
 have ih0:=slices_IndexFunc_string_string_impl_isLong_1.mono_l k
 unfold slices_IndexFunc_string_string_impl_isLong_1.f
 repeat' first
   | (with_reducible exact ih0 _ _ _)
   | (with_reducible exact LeO.refl _)
   | (with_reducible exact LeO.none _)
   | (with_reducible refine LeO.ite ?_ ?_)
   | (with_reducible refine LeO.bind ?_ (fun _=>?_))
   | exact ih0 _ _ _
   | exact LeO.none _
   | refine LeO.ite ?_ ?_
   | refine LeO.bind ?_ (fun _=>?_)
set_option maxHeartbeats 8000000 in
set_option maxRecDepth 100000 in
theorem slices_IndexFunc_string_string_impl_isLong_1.calls (k:Nat) (A0:Option Addr) (c0:Nat) (l0:List ByteArray)  (r:Int) (w:World) (hr0:Kd.C Kd.string w A0 l0.length l0) (hc0:l0.length≤c0) (h:slices_IndexFunc_string_string_impl_isLong_1.f k l0=some r) :
  Calls Tryd.prog 101 #[.slice A0 l0.length c0,.func (.func 86) #[] #[]] w fun e w'=>e = .returned (.int .i64 r)∧Drawn0 w w':=by
 have HR0:=Aside0.mk hr0
 have HC0:=Aside0.mk hc0
 clear hr0 hc0
 have H:(slices_IndexFunc_string_string_impl_isLong_1.l0 k l0 (l0.length:Int) 0)=some r:=h
 clear h
 have H':=Aside0.mk H
 clear H
 go_enter Tryd.func101,Tryd.ntmps101
 go_wp2
 go_loopg [8] k (fun kq v8 w'=>∃ (x8_1:Int),v8 = .int .i64 x8_1∧Aside0 (slices_IndexFunc_string_string_impl_isLong_1.l0 kq l0 (l0.length:Int) x8_1=some r)∧Aside0 (kq≤k)∧Drawn0 w w')
 case atStart=>exact ⟨(0),(z1_),H',⟨Nat.le_refl _⟩,z6_⟩
 case round =>
  clear H'
  try clear p2
  obtain ⟨x8_1,rfl,HA,HK1,⟨m1,rfl⟩⟩:=hrel
  cases gk with
  | zero=>exact absurd HA.out (by simp [slices_IndexFunc_string_string_impl_isLong_1.l0])
  | succ k1 =>
   have H:=HA.out
   clear HA
   simp only [slices_IndexFunc_string_string_impl_isLong_1.l0] at H
   by_cases c3:x8_1<(l0.length:Int)
   ·rw [if_pos c3] at H
    have c3b0:decide (x8_1<(l0.length:Int))=true:=decide_eq_true c3
    clear c3
    by_cases c4:0≤x8_1
    ·rw [if_pos c4] at H
     have c4b0:decide (0≤x8_1)=true:=decide_eq_true c4
     clear c4
     by_cases c5:x8_1<(l0.length:Int)
     ·rw [if_pos c5] at H
      have c5b0:decide (x8_1<(l0.length:Int))=true:=decide_eq_true c5
      clear c5
      replace H:=Option.bind_eq_some_iff.mp H
      obtain ⟨t442,A60,H⟩:=H
      replace H:(if t442=true then (some x8_1) else (slices_IndexFunc_string_string_impl_isLong_1.l0 k1 l0 (l0.length:Int) (wrap64 (x8_1+1))))=some r:=H
      have A6:=Aside0.mk A60
      clear A60
      by_cases c7:t442=true
      ·subst c7
       have H1:(some x8_1)=some r:=by rw [if_pos rfl] at H;exact H
       clear H
       have H:=H1
       clear H1
       obtain rfl:=Option.some.inj H
       have p441:0≤(x8_1:Int):=of_decide_eq_true (z0_)
       have q441:x8_1<(l0.length:Int):=of_decide_eq_true (z0_)
       obtain ⟨ad441,e441,hx441_0⟩:=Kd.at_string HR0.out x8_1 p441 q441
       cases e441
       replace p441:=eq_true p441
       replace q441:=eq_true q441
       go_wp2_with (first | (go_at_call 86;(with_reducible refine (impl_isLong_1.calls (rdOf ByteArray.empty l0 x8_1) true _ A6.out).mono ?_);rintro e w' ⟨rfl,⟨nd,rfl⟩⟩))
       go_ret
       exact ⟨z1_,z6_⟩
      ·replace c7:=Bool.eq_false_iff.mpr c7
       subst c7
       have H1:(slices_IndexFunc_string_string_impl_isLong_1.l0 k1 l0 (l0.length:Int) (wrap64 (x8_1+1)))=some r:=by rw [if_neg (show ¬ (false=true) by decide)] at H;exact H
       clear H
       have H:=H1
       clear H1
       have H':=Aside0.mk H
       clear H
       have p441:0≤(x8_1:Int):=of_decide_eq_true (z0_)
       have q441:x8_1<(l0.length:Int):=of_decide_eq_true (z0_)
       obtain ⟨ad441,e441,hx441_0⟩:=Kd.at_string HR0.out x8_1 p441 q441
       cases e441
       replace p441:=eq_true p441
       replace q441:=eq_true q441
       go_wp2_with (first | (go_at_call 86;(with_reducible refine (impl_isLong_1.calls (rdOf ByteArray.empty l0 x8_1) false _ A6.out).mono ?_);rintro e w' ⟨rfl,⟨nd,rfl⟩⟩))
       go_roundg k1
       case measure=>have:=HK1.out;omega
       case rel=>exact ⟨(wrap64 (x8_1+1)),(z1_),H',⟨by have:=HK1.out;omega⟩,z6_⟩
     ·rw [if_neg c5] at H
      exact absurd H (by simp)
    ·rw [if_neg c4] at H
     exact absurd H (by simp)
   ·rw [if_neg c3] at H
    have c3b0:decide (x8_1<(l0.length:Int))=false:=decide_eq_false c3
    clear c3
    obtain rfl:=Option.some.inj H
    go_wp2
    go_ret
    exact ⟨z1_,z6_⟩


/-! ### slices_ContainsFunc_string_string_impl_isLong_1: function 85 -/
def slices_ContainsFunc_string_string_impl_isLong_1.f (k:Nat) (l0:List ByteArray)  : Option (Bool):=(slices_IndexFunc_string_string_impl_isLong_1.f k l0).bind fun t443=>(some (decide (t443≥0)))
theorem slices_ContainsFunc_string_string_impl_isLong_1.mono:∀ a0 k,LeO (slices_ContainsFunc_string_string_impl_isLong_1.f k a0) (slices_ContainsFunc_string_string_impl_isLong_1.f (k+1) a0):=by
 intro a0 k
 unfold slices_ContainsFunc_string_string_impl_isLong_1.f
 repeat' first
   | (with_reducible exact slices_IndexFunc_string_string_impl_isLong_1.mono _ _)
   | (with_reducible exact LeO.refl _)
   | (with_reducible exact LeO.none _)
   | (with_reducible refine LeO.ite ?_ ?_)
   | (with_reducible refine LeO.bind ?_ (fun _=>?_))
   | exact slices_IndexFunc_string_string_impl_isLong_1.mono _ _
   | exact LeO.none _
   | refine LeO.ite ?_ ?_
   | refine LeO.bind ?_ (fun _=>?_)
set_option maxHeartbeats 8000000 in
set_option maxRecDepth 100000 in
theorem slices_ContainsFunc_string_string_impl_isLong_1.calls (k:Nat) (A0:Option Addr) (c0:Nat) (l0:List ByteArray)  (r:Bool) (w:World) (hr0:Kd.C Kd.string w A0 l0.length l0) (hc0:l0.length≤c0) (h:slices_ContainsFunc_string_string_impl_isLong_1.f k l0=some r) :
  Calls Tryd.prog 85 #[.slice A0 l0.length c0,.func (.func 86) #[] #[]] w fun e w'=>e = .returned (.bool r)∧Drawn0 w w':=by
 have HR0:=Aside0.mk hr0
 have HC0:=Aside0.mk hc0
 clear hr0 hc0
 have H:((slices_IndexFunc_string_string_impl_isLong_1.f k l0).bind fun t443=>(some (decide (t443≥0))))=some r:=h
 clear h
 replace H:=Option.bind_eq_some_iff.mp H
 obtain ⟨t443,A30,H⟩:=H
 replace H:(some (decide (t443≥0)))=some r:=H
 have A3:=Aside0.mk A30
 clear A30
 obtain rfl:=Option.some.inj H
 go_enter Tryd.func85,Tryd.ntmps85
 go_wp2_with (first | ((with_reducible refine gc_ 101 ?_);refine gl_ (some 7) Tryd.func101 #[.slice A0 l0.length c0,.func (.func 86) #[] #[]] ?_;(with_reducible refine (slices_IndexFunc_string_string_impl_isLong_1.calls k _ _ l0  t443 _ ?s1 ?s2 A3.out).mono ?_);(case s1=>repeat (first | exact HR0.out | (with_reducible refine Kd.C_alloc ?_ _) | (with_reducible refine Kd.C_drewN ?_ _) | (with_reducible refine Kd.C_drew ?_)));(case s2=>exact HC0.out);rintro e w' ⟨rfl,⟨nd,rfl⟩⟩;refine ⟨_,rfl,?_⟩))
 go_ret
 exact ⟨z1_,z6_⟩


/-! ### impl_isLong: function 72 -/
def impl_isLong.f (k:Nat) (l0:List ByteArray):Option (Bool):=(slices_ContainsFunc_string_string_impl_isLong_1.f k l0).bind fun t444=>(some t444)
theorem impl_isLong.mono:∀ a0 k,LeO (impl_isLong.f k a0) (impl_isLong.f (k+1) a0):=by
 intro a0 k
 unfold impl_isLong.f
 repeat' first
   | (with_reducible exact slices_ContainsFunc_string_string_impl_isLong_1.mono _ _)
   | (with_reducible exact LeO.refl _)
   | (with_reducible exact LeO.none _)
   | (with_reducible refine LeO.ite ?_ ?_)
   | (with_reducible refine LeO.bind ?_ (fun _=>?_))
   | exact slices_ContainsFunc_string_string_impl_isLong_1.mono _ _
   | exact LeO.none _
   | refine LeO.ite ?_ ?_
   | refine LeO.bind ?_ (fun _=>?_)
set_option maxHeartbeats 8000000 in
set_option maxRecDepth 100000 in
theorem impl_isLong.calls (k:Nat) (A0:Option Addr) (c0:Nat) (l0:List ByteArray) (r:Bool) (w:World) (hr0:Kd.C Kd.string w A0 l0.length l0) (hc0:l0.length≤c0) (h:impl_isLong.f k l0=some r) :
  Calls Tryd.prog 72 #[.slice A0 l0.length c0] w fun e w'=>e = .returned (.bool r)∧Drawn0 w w':=by
 have HR0:=Aside0.mk hr0
 have HC0:=Aside0.mk hc0
 clear hr0 hc0
 have H:((slices_ContainsFunc_string_string_impl_isLong_1.f k l0).bind fun t444=>(some t444))=some r:=h
 clear h
 replace H:=Option.bind_eq_some_iff.mp H
 obtain ⟨t444,A20,H⟩:=H
 replace H:(some t444)=some r:=H
 have A2:=Aside0.mk A20
 clear A20
 obtain rfl:=Option.some.inj H
 go_enter Tryd.func72,Tryd.ntmps72
 go_wp2_with (first | ((with_reducible refine gc_ 85 ?_);refine gl_ (some 4) Tryd.func85 #[.slice A0 l0.length c0,.func (.func 86) #[] #[]] ?_;(with_reducible refine (slices_ContainsFunc_string_string_impl_isLong_1.calls k _ _ l0  t444 _ ?s1 ?s2 A2.out).mono ?_);(case s1=>repeat (first | exact HR0.out | (with_reducible refine Kd.C_alloc ?_ _) | (with_reducible refine Kd.C_drewN ?_ _) | (with_reducible refine Kd.C_drew ?_)));(case s2=>exact HC0.out);rintro e w' ⟨rfl,⟨nd,rfl⟩⟩;refine ⟨_,rfl,?_⟩))
 go_ret
 exact ⟨z1_,z6_⟩


/-! ### impl_size: function 87 -/
def impl_size.f (a0:ByteArray):Option (Int):=some (a0.size:Int)
set_option maxHeartbeats 8000000 in
set_option maxRecDepth 100000 in
theorem impl_size.calls (a0:ByteArray) (r:Int) (w:World) (h:impl_size.f a0=some r) :
  Calls Tryd.prog 87 #[.string a0] w fun e w'=>e = .returned (.int .i64 r)∧Drawn0 w w':=by
 have H:(some (a0.size:Int))=some r:=h
 clear h
 obtain rfl:=Option.some.inj H
 go_enter Tryd.func87,Tryd.ntmps87
 go_wp2
 go_ret
 exact ⟨z1_,z6_⟩


/-! ### impl_NameRight: function 73 -/
mutual
def impl_NameRight.j0:Nat→ByteArray→Bool→Option (Bool)
 | 0,_,_=>none
 | k+1,x0,x18=>if x18=true then (some false) else (impl_NameRight.l0 k x0 (x0.size:Int) 0)
def impl_NameRight.l0:Nat→ByteArray→Int→Int→Option (Bool)
 | 0,_,_,_=>none
 | k+1,x0,x20,x21=>if x21<x20 then (if 0≤x21 then (if x21<(x0.size:Int) then (if (bt x0 x21)≥97 then (if (bt x0 x21)≤122 then (impl_NameRight.l0 k x0 x20 (wrap64 (x21+1))) else (if (bt x0 x21)≥48 then (if (bt x0 x21)≤57 then (impl_NameRight.l0 k x0 x20 (wrap64 (x21+1))) else (if ((bt x0 x21)=95) then (impl_NameRight.l0 k x0 x20 (wrap64 (x21+1))) else (some false))) else (if ((bt x0 x21)=95) then (impl_NameRight.l0 k x0 x20 (wrap64 (x21+1))) else (some false)))) else (if (bt x0 x21)≥48 then (if (bt x0 x21)≤57 then (impl_NameRight.l0 k x0 x20 (wrap64 (x21+1))) else (if ((bt x0 x21)=95) then (impl_NameRight.l0 k x0 x20 (wrap64 (x21+1))) else (some false))) else (if ((bt x0 x21)=95) then (impl_NameRight.l0 k x0 x20 (wrap64 (x21+1))) else (some false)))) else (none)) else (none)) else (some true)
end
def impl_NameRight.f (k:Nat) (a0:ByteArray):Option (Bool):=(impl_size.f a0).bind fun t445=>((impl_within.f t445 1 20).bind fun t446=>(if t446=true then (if 0<(a0.size:Int) then (if (bt a0 0)<97 then (impl_NameRight.j0 k a0 true) else (impl_NameRight.j0 k a0 (decide ((bt a0 0)>122)))) else (none)) else (impl_NameRight.j0 k a0 true)))
theorem impl_NameRight.mono_l:∀ k,(∀ y0 y1,LeO (impl_NameRight.j0 k y0 y1) (impl_NameRight.j0 (k+1) y0 y1))∧(∀ y0 y1 y2,LeO (impl_NameRight.l0 k y0 y1 y2) (impl_NameRight.l0 (k+1) y0 y1 y2))
 | 0=>⟨fun _ _ r h=>by simp [impl_NameRight.j0] at h,fun _ _ _ r h=>by simp [impl_NameRight.l0] at h⟩
 | k+1=>by
  obtain ⟨ih0,ih1⟩:=impl_NameRight.mono_l k
  refine ⟨?_,?_⟩
  ·intro y0 y1
   unfold impl_NameRight.j0
   repeat' first
   | (with_reducible exact ih0 _ _)
   | (with_reducible exact ih1 _ _ _)
   | (with_reducible exact LeO.refl _)
   | (with_reducible exact LeO.none _)
   | (with_reducible refine LeO.ite ?_ ?_)
   | (with_reducible refine LeO.bind ?_ (fun _=>?_))
   | exact ih0 _ _
   | exact ih1 _ _ _
   | exact LeO.none _
   | refine LeO.ite ?_ ?_
   | refine LeO.bind ?_ (fun _=>?_)
  ·intro y0 y1 y2
   unfold impl_NameRight.l0
   repeat' first
   | (with_reducible exact ih0 _ _)
   | (with_reducible exact ih1 _ _ _)
   | (with_reducible exact LeO.refl _)
   | (with_reducible exact LeO.none _)
   | (with_reducible refine LeO.ite ?_ ?_)
   | (with_reducible refine LeO.bind ?_ (fun _=>?_))
   | exact ih0 _ _
   | exact ih1 _ _ _
   | exact LeO.none _
   | refine LeO.ite ?_ ?_
   | refine LeO.bind ?_ (fun _=>?_)
theorem impl_NameRight.mono:∀ a0 k,LeO (impl_NameRight.f k a0) (impl_NameRight.f (k+1) a0):=by
 intro a0 k
 obtain ⟨ih0,ih1⟩:=impl_NameRight.mono_l k
 unfold impl_NameRight.f
 repeat' first
   | (with_reducible exact ih0 _ _)
   | (with_reducible exact ih1 _ _ _)
   | (with_reducible exact LeO.refl _)
   | (with_reducible exact LeO.none _)
   | (with_reducible refine LeO.ite ?_ ?_)
   | (with_reducible refine LeO.bind ?_ (fun _=>?_))
   | exact ih0 _ _
   | exact ih1 _ _ _
   | exact LeO.none _
   | refine LeO.ite ?_ ?_
   | refine LeO.bind ?_ (fun _=>?_)
set_option maxHeartbeats 8000000 in
set_option maxRecDepth 100000 in
theorem impl_NameRight.calls (k:Nat) (a0:ByteArray) (r:Bool) (w:World) (h:impl_NameRight.f k a0=some r) :
  Calls Tryd.prog 73 #[.string a0] w fun e w'=>e = .returned (.bool r)∧Drawn0 w w':=by
 have H:((impl_size.f a0).bind fun t445=>((impl_within.f t445 1 20).bind fun t446=>(if t446=true then (if 0<(a0.size:Int) then (if (bt a0 0)<97 then (impl_NameRight.j0 k a0 true) else (impl_NameRight.j0 k a0 (decide ((bt a0 0)>122)))) else (none)) else (impl_NameRight.j0 k a0 true))))=some r:=h
 clear h
 have HC2:=Aside0.mk H
 clear H
 go_enter Tryd.func73,Tryd.ntmps73
 go_upto_region 1 with (fail)
 go_cut [18] (fun v18 wc=>∃ (kq:Nat) (x18_1:Bool),v18 = .bool x18_1∧Aside0 (impl_NameRight.j0 kq a0 x18_1=some r)∧Aside0 (kq≤k)∧Drawn0 w wc)
 case first =>
  have H:=HC2.out
  clear HC2
  replace H:=Option.bind_eq_some_iff.mp H
  obtain ⟨t445,A30,H⟩:=H
  replace H:((impl_within.f t445 1 20).bind fun t446=>(if t446=true then (if 0<(a0.size:Int) then (if (bt a0 0)<97 then (impl_NameRight.j0 k a0 true) else (impl_NameRight.j0 k a0 (decide ((bt a0 0)>122)))) else (none)) else (impl_NameRight.j0 k a0 true)))=some r:=H
  have A3:=Aside0.mk A30
  clear A30
  replace H:=Option.bind_eq_some_iff.mp H
  obtain ⟨t446,A40,H⟩:=H
  replace H:(if t446=true then (if 0<(a0.size:Int) then (if (bt a0 0)<97 then (impl_NameRight.j0 k a0 true) else (impl_NameRight.j0 k a0 (decide ((bt a0 0)>122)))) else (none)) else (impl_NameRight.j0 k a0 true))=some r:=H
  have A4:=Aside0.mk A40
  clear A40
  by_cases c5:t446=true
  ·subst c5
   have H1:(if 0<(a0.size:Int) then (if (bt a0 0)<97 then (impl_NameRight.j0 k a0 true) else (impl_NameRight.j0 k a0 (decide ((bt a0 0)>122)))) else (none))=some r:=by rw [if_pos rfl] at H;exact H
   clear H
   have H:=H1
   clear H1
   by_cases c6:0<(a0.size:Int)
   ·rw [if_pos c6] at H
    have c6b0:decide (0<(a0.size:Int))=true:=decide_eq_true c6
    have c6b1:decide (0<a0.size)=true:=decide_eq_true (by omega)
    clear c6
    (first | rw [c6b0] | (simp only [i64_w,i32_w];rw [c6b0]) | skip)
    by_cases c8:(bt a0 0)<97
    ·rw [if_pos c8] at H
     have c8b0:decide ((bt a0 0)<97)=true:=decide_eq_true c8
     clear c8
     have H':=Aside0.mk H
     clear H
     go_wp2_with (first | ((with_reducible refine gc_ 87 ?_);refine gl_ (some 6) Tryd.func87 #[.string a0] ?_;(with_reducible refine (impl_size.calls a0 t445 _ A3.out).mono ?_);rintro e w' ⟨rfl,⟨nd,rfl⟩⟩;refine ⟨_,rfl,?_⟩) | ((with_reducible refine gc_ 40 ?_);refine gl_ (some 7) Tryd.func40 #[.int .i64 t445,.int .i64 1,.int .i64 20] ?_;(with_reducible refine (impl_within.calls t445 1 20 true _ A4.out).mono ?_);rintro e w' ⟨rfl,⟨nd,rfl⟩⟩;refine ⟨_,rfl,?_⟩;have p7:0≤(0:Int):=(by omega);have q7:0<a0.size:=(z39_);have hx7:∀ h:0<a0.size,((a0[0]'h).toNat:Int)=bt a0 0:=bt_at a0 0;clear p7;have qi7:(0<(a0.size:Int))=True:=eq_true (of_decide_eq_true (z0_));replace q7:=eq_true q7))
     go_meet
     case rel=>exact ⟨_,(true),(z1_),H',⟨by first | omega | exact Nat.le_refl _⟩,z6_⟩
    ·rw [if_neg c8] at H
     have c8b0:decide ((bt a0 0)<97)=false:=decide_eq_false c8
     clear c8
     have H':=Aside0.mk H
     clear H
     go_wp2_with (first | ((with_reducible refine gc_ 87 ?_);refine gl_ (some 6) Tryd.func87 #[.string a0] ?_;(with_reducible refine (impl_size.calls a0 t445 _ A3.out).mono ?_);rintro e w' ⟨rfl,⟨nd,rfl⟩⟩;refine ⟨_,rfl,?_⟩) | ((with_reducible refine gc_ 40 ?_);refine gl_ (some 7) Tryd.func40 #[.int .i64 t445,.int .i64 1,.int .i64 20] ?_;(with_reducible refine (impl_within.calls t445 1 20 true _ A4.out).mono ?_);rintro e w' ⟨rfl,⟨nd,rfl⟩⟩;refine ⟨_,rfl,?_⟩;have p7:0≤(0:Int):=(by omega);have q7:0<a0.size:=(z39_);have hx7:∀ h:0<a0.size,((a0[0]'h).toNat:Int)=bt a0 0:=bt_at a0 0;clear p7;have qi7:(0<(a0.size:Int))=True:=eq_true (of_decide_eq_true (z0_));replace q7:=eq_true q7;have p9:0≤(0:Int):=(by omega);have q9:0<a0.size:=(z39_);have hx9:∀ h:0<a0.size,((a0[0]'h).toNat:Int)=bt a0 0:=bt_at a0 0;clear p9;have qi9:(0<(a0.size:Int))=True:=eq_true (of_decide_eq_true (z0_));replace q9:=eq_true q9))
     go_meet
     case rel=>exact ⟨_,(decide ((bt a0 0)>122)),(z1_),H',⟨by first | omega | exact Nat.le_refl _⟩,z6_⟩
   ·rw [if_neg c6] at H
    exact absurd H (by simp)
  ·replace c5:=Bool.eq_false_iff.mpr c5
   subst c5
   have H1:(impl_NameRight.j0 k a0 true)=some r:=by rw [if_neg (show ¬ (false=true) by decide)] at H;exact H
   clear H
   have H:=H1
   clear H1
   have H':=Aside0.mk H
   clear H
   go_wp2_with (first | ((with_reducible refine gc_ 87 ?_);refine gl_ (some 6) Tryd.func87 #[.string a0] ?_;(with_reducible refine (impl_size.calls a0 t445 _ A3.out).mono ?_);rintro e w' ⟨rfl,⟨nd,rfl⟩⟩;refine ⟨_,rfl,?_⟩) | ((with_reducible refine gc_ 40 ?_);refine gl_ (some 7) Tryd.func40 #[.int .i64 t445,.int .i64 1,.int .i64 20] ?_;(with_reducible refine (impl_within.calls t445 1 20 false _ A4.out).mono ?_);rintro e w' ⟨rfl,⟨nd,rfl⟩⟩;refine ⟨_,rfl,?_⟩))
   go_meet
   case rel=>exact ⟨_,(true),(z1_),H',⟨by first | omega | exact Nat.le_refl _⟩,z6_⟩
 case rest =>
  clear HC2
  try clear p2
  try clear c4
  try clear c5
  try clear c6
  try clear c6b0
  try clear c6b1
  try clear c7
  try clear p7
  try clear q7
  try clear hx7
  try clear qi7
  try clear c8
  try clear c8b0
  try clear p9
  try clear q9
  try clear hx9
  try clear qi9
  try clear p7
  try clear p9
  try clear q7
  try clear q9
  obtain ⟨kq,x18_1,rfl,HA,HJ1,⟨mc1,rfl⟩⟩:=hcut
  cases kq with
  | zero=>exact absurd HA.out (by simp [impl_NameRight.j0])
  | succ kj1 =>
   have H:=HA.out
   clear HA
   simp only [impl_NameRight.j0] at H
   by_cases c10:x18_1=true
   ·subst c10
    have H1:(some false)=some r:=by rw [if_pos rfl] at H;exact H
    clear H
    have H:=H1
    clear H1
    obtain rfl:=Option.some.inj H
    go_wp2
    go_ret
    exact ⟨z1_,z6_⟩
   ·replace c10:=Bool.eq_false_iff.mpr c10
    subst c10
    have H1:(impl_NameRight.l0 kj1 a0 (a0.size:Int) 0)=some r:=by rw [if_neg (show ¬ (false=true) by decide)] at H;exact H
    clear H
    have H:=H1
    clear H1
    have H':=Aside0.mk H
    clear H
    go_wp2
    go_loopg [21] kj1 (fun kq v21 w'=>∃ (x21_2:Int),v21 = .int .i64 x21_2∧Aside0 (impl_NameRight.l0 kq a0 (a0.size:Int) x21_2=some r)∧Aside0 (kq≤kj1)∧Drawn0 w w')
    case atStart=>exact ⟨(0),(z1_),H',⟨Nat.le_refl _⟩,z6_⟩
    case round =>
     clear H'
     try clear c1
     try clear p2
     try clear c4
     try clear c5
     try clear c6
     try clear c6b0
     try clear c6b1
     try clear c7
     try clear p7
     try clear q7
     try clear hx7
     try clear qi7
     try clear c8
     try clear c8b0
     try clear p9
     try clear q9
     try clear hx9
     try clear qi9
     try clear c10
     try clear p2
     try clear p7
     try clear p9
     try clear q7
     try clear q9
     obtain ⟨x21_2,rfl,HA,HK2,⟨m2,rfl⟩⟩:=hrel
     cases gk with
     | zero=>exact absurd HA.out (by simp [impl_NameRight.l0])
     | succ k2 =>
      have H:=HA.out
      clear HA
      simp only [impl_NameRight.l0] at H
      by_cases c11:x21_2<(a0.size:Int)
      ·rw [if_pos c11] at H
       have c11b0:decide (x21_2<(a0.size:Int))=true:=decide_eq_true c11
       clear c11
       by_cases c12:0≤x21_2
       ·rw [if_pos c12] at H
        have c12b0:decide (0≤x21_2)=true:=decide_eq_true c12
        clear c12
        by_cases c13:x21_2<(a0.size:Int)
        ·rw [if_pos c13] at H
         have c13b0:decide (x21_2<(a0.size:Int))=true:=decide_eq_true c13
         clear c13
         by_cases c15:(bt a0 x21_2)≥97
         ·rw [if_pos c15] at H
          have c15b0:decide (97≤(bt a0 x21_2))=true:=decide_eq_true c15
          clear c15
          by_cases c16:(bt a0 x21_2)≤122
          ·rw [if_pos c16] at H
           have c16b0:decide ((bt a0 x21_2)≤122)=true:=decide_eq_true c16
           clear c16
           have H':=Aside0.mk H
           clear H
           have p14:0≤(x21_2:Int):=of_decide_eq_true (z0_)
           have q14:x21_2<(a0.size:Int):=of_decide_eq_true (z0_)
           have hx14:=bt_at a0 x21_2
           replace p14:=eq_true p14
           replace q14:=eq_true q14
           go_wp2
           go_roundg k2
           case measure=>have:=HJ1.out;have:=HK2.out;omega
           case rel=>exact ⟨(wrap64 (x21_2+1)),(z1_),H',⟨z13_ HJ1.out HK2.out⟩,z6_⟩
          ·rw [if_neg c16] at H
           have c16b0:decide ((bt a0 x21_2)≤122)=false:=decide_eq_false c16
           clear c16
           by_cases c17:(bt a0 x21_2)≥48
           ·rw [if_pos c17] at H
            have c17b0:decide (48≤(bt a0 x21_2))=true:=decide_eq_true c17
            clear c17
            by_cases c18:(bt a0 x21_2)≤57
            ·rw [if_pos c18] at H
             have c18b0:decide ((bt a0 x21_2)≤57)=true:=decide_eq_true c18
             clear c18
             have H':=Aside0.mk H
             clear H
             have p14:0≤(x21_2:Int):=of_decide_eq_true (z0_)
             have q14:x21_2<(a0.size:Int):=of_decide_eq_true (z0_)
             have hx14:=bt_at a0 x21_2
             replace p14:=eq_true p14
             replace q14:=eq_true q14
             go_wp2
             go_roundg k2
             case measure=>have:=HJ1.out;have:=HK2.out;omega
             case rel=>exact ⟨(wrap64 (x21_2+1)),(z1_),H',⟨z13_ HJ1.out HK2.out⟩,z6_⟩
            ·rw [if_neg c18] at H
             have c18b0:decide ((bt a0 x21_2)≤57)=false:=decide_eq_false c18
             clear c18
             by_cases c19:((bt a0 x21_2)=95)
             ·rw [if_pos c19] at H
              have c19b0:((bt a0 x21_2) == 95)=true:=beq_iff_eq.mpr c19
              have c19b1:((bt a0 x21_2) != 95)=false:=bne_eq_false_iff_eq.mpr c19
              clear c19
              have H':=Aside0.mk H
              clear H
              have p14:0≤(x21_2:Int):=of_decide_eq_true (z0_)
              have q14:x21_2<(a0.size:Int):=of_decide_eq_true (z0_)
              have hx14:=bt_at a0 x21_2
              replace p14:=eq_true p14
              replace q14:=eq_true q14
              go_wp2
              go_roundg k2
              case measure=>have:=HJ1.out;have:=HK2.out;omega
              case rel=>exact ⟨(wrap64 (x21_2+1)),(z1_),H',⟨z13_ HJ1.out HK2.out⟩,z6_⟩
             ·rw [if_neg c19] at H
              have c19b0:((bt a0 x21_2) == 95)=false:=beq_eq_false_iff_ne.mpr c19
              have c19b1:((bt a0 x21_2) != 95)=true:=bne_iff_ne.mpr c19
              obtain rfl:=Option.some.inj H
              have p14:0≤(x21_2:Int):=of_decide_eq_true (z0_)
              have q14:x21_2<(a0.size:Int):=of_decide_eq_true (z0_)
              have hx14:=bt_at a0 x21_2
              replace p14:=eq_true p14
              replace q14:=eq_true q14
              go_wp2
              go_ret
              exact ⟨z1_,z6_⟩
           ·rw [if_neg c17] at H
            have c17b0:decide (48≤(bt a0 x21_2))=false:=decide_eq_false c17
            clear c17
            by_cases c20:((bt a0 x21_2)=95)
            ·rw [if_pos c20] at H
             have c20b0:((bt a0 x21_2) == 95)=true:=beq_iff_eq.mpr c20
             have c20b1:((bt a0 x21_2) != 95)=false:=bne_eq_false_iff_eq.mpr c20
             clear c20
             have H':=Aside0.mk H
             clear H
             have p14:0≤(x21_2:Int):=of_decide_eq_true (z0_)
             have q14:x21_2<(a0.size:Int):=of_decide_eq_true (z0_)
             have hx14:=bt_at a0 x21_2
             replace p14:=eq_true p14
             replace q14:=eq_true q14
             go_wp2
             go_roundg k2
             case measure=>have:=HJ1.out;have:=HK2.out;omega
             case rel=>exact ⟨(wrap64 (x21_2+1)),(z1_),H',⟨z13_ HJ1.out HK2.out⟩,z6_⟩
            ·rw [if_neg c20] at H
             have c20b0:((bt a0 x21_2) == 95)=false:=beq_eq_false_iff_ne.mpr c20
             have c20b1:((bt a0 x21_2) != 95)=true:=bne_iff_ne.mpr c20
             obtain rfl:=Option.some.inj H
             have p14:0≤(x21_2:Int):=of_decide_eq_true (z0_)
             have q14:x21_2<(a0.size:Int):=of_decide_eq_true (z0_)
             have hx14:=bt_at a0 x21_2
             replace p14:=eq_true p14
             replace q14:=eq_true q14
             go_wp2
             go_ret
             exact ⟨z1_,z6_⟩
         ·rw [if_neg c15] at H
          have c15b0:decide (97≤(bt a0 x21_2))=false:=decide_eq_false c15
          clear c15
          by_cases c21:(bt a0 x21_2)≥48
          ·rw [if_pos c21] at H
           have c21b0:decide (48≤(bt a0 x21_2))=true:=decide_eq_true c21
           clear c21
           by_cases c22:(bt a0 x21_2)≤57
           ·rw [if_pos c22] at H
            have c22b0:decide ((bt a0 x21_2)≤57)=true:=decide_eq_true c22
            clear c22
            have H':=Aside0.mk H
            clear H
            have p14:0≤(x21_2:Int):=of_decide_eq_true (z0_)
            have q14:x21_2<(a0.size:Int):=of_decide_eq_true (z0_)
            have hx14:=bt_at a0 x21_2
            replace p14:=eq_true p14
            replace q14:=eq_true q14
            go_wp2
            go_roundg k2
            case measure=>have:=HJ1.out;have:=HK2.out;omega
            case rel=>exact ⟨(wrap64 (x21_2+1)),(z1_),H',⟨z13_ HJ1.out HK2.out⟩,z6_⟩
           ·rw [if_neg c22] at H
            have c22b0:decide ((bt a0 x21_2)≤57)=false:=decide_eq_false c22
            clear c22
            by_cases c23:((bt a0 x21_2)=95)
            ·rw [if_pos c23] at H
             have c23b0:((bt a0 x21_2) == 95)=true:=beq_iff_eq.mpr c23
             have c23b1:((bt a0 x21_2) != 95)=false:=bne_eq_false_iff_eq.mpr c23
             clear c23
             have H':=Aside0.mk H
             clear H
             have p14:0≤(x21_2:Int):=of_decide_eq_true (z0_)
             have q14:x21_2<(a0.size:Int):=of_decide_eq_true (z0_)
             have hx14:=bt_at a0 x21_2
             replace p14:=eq_true p14
             replace q14:=eq_true q14
             go_wp2
             go_roundg k2
             case measure=>have:=HJ1.out;have:=HK2.out;omega
             case rel=>exact ⟨(wrap64 (x21_2+1)),(z1_),H',⟨z13_ HJ1.out HK2.out⟩,z6_⟩
            ·rw [if_neg c23] at H
             have c23b0:((bt a0 x21_2) == 95)=false:=beq_eq_false_iff_ne.mpr c23
             have c23b1:((bt a0 x21_2) != 95)=true:=bne_iff_ne.mpr c23
             obtain rfl:=Option.some.inj H
             have p14:0≤(x21_2:Int):=of_decide_eq_true (z0_)
             have q14:x21_2<(a0.size:Int):=of_decide_eq_true (z0_)
             have hx14:=bt_at a0 x21_2
             replace p14:=eq_true p14
             replace q14:=eq_true q14
             go_wp2
             go_ret
             exact ⟨z1_,z6_⟩
          ·rw [if_neg c21] at H
           have c21b0:decide (48≤(bt a0 x21_2))=false:=decide_eq_false c21
           clear c21
           by_cases c24:((bt a0 x21_2)=95)
           ·rw [if_pos c24] at H
            have c24b0:((bt a0 x21_2) == 95)=true:=beq_iff_eq.mpr c24
            have c24b1:((bt a0 x21_2) != 95)=false:=bne_eq_false_iff_eq.mpr c24
            clear c24
            have H':=Aside0.mk H
            clear H
            have p14:0≤(x21_2:Int):=of_decide_eq_true (z0_)
            have q14:x21_2<(a0.size:Int):=of_decide_eq_true (z0_)
            have hx14:=bt_at a0 x21_2
            replace p14:=eq_true p14
            replace q14:=eq_true q14
            go_wp2
            go_roundg k2
            case measure=>have:=HJ1.out;have:=HK2.out;omega
            case rel=>exact ⟨(wrap64 (x21_2+1)),(z1_),H',⟨z13_ HJ1.out HK2.out⟩,z6_⟩
           ·rw [if_neg c24] at H
            have c24b0:((bt a0 x21_2) == 95)=false:=beq_eq_false_iff_ne.mpr c24
            have c24b1:((bt a0 x21_2) != 95)=true:=bne_iff_ne.mpr c24
            obtain rfl:=Option.some.inj H
            have p14:0≤(x21_2:Int):=of_decide_eq_true (z0_)
            have q14:x21_2<(a0.size:Int):=of_decide_eq_true (z0_)
            have hx14:=bt_at a0 x21_2
            replace p14:=eq_true p14
            replace q14:=eq_true q14
            go_wp2
            go_ret
            exact ⟨z1_,z6_⟩
        ·rw [if_neg c13] at H
         exact absurd H (by simp)
       ·rw [if_neg c12] at H
        exact absurd H (by simp)
      ·rw [if_neg c11] at H
       have c11b0:decide (x21_2<(a0.size:Int))=false:=decide_eq_false c11
       clear c11
       obtain rfl:=Option.some.inj H
       go_wp2
       go_ret
       exact ⟨z1_,z6_⟩


/-! ### impl_isKeyed: function 49 -/
def impl_isKeyed.f (k:Nat) (a0_0:Int) (l0_1:List (S57)) (a1:ByteArray):Option (Bool):=(impl_isLong.f k (([a1]:List ByteArray))).bind fun t451=>(if t451=true then (some false) else ((impl_RingRight.f k a0_0 l0_1).bind fun t452=>(if t452=true then ((impl_NameRight.f k a1).bind fun t453=>(some t453)) else (some false))))
theorem impl_isKeyed.mono:∀ a0 a1 a2 k,LeO (impl_isKeyed.f k a0 a1 a2) (impl_isKeyed.f (k+1) a0 a1 a2):=by
 intro a0 a1 a2 k
 unfold impl_isKeyed.f
 repeat' first
   | (with_reducible exact impl_NameRight.mono _ _)
   | (with_reducible exact impl_RingRight.mono _ _ _)
   | (with_reducible exact impl_isLong.mono _ _)
   | (with_reducible exact LeO.refl _)
   | (with_reducible exact LeO.none _)
   | (with_reducible refine LeO.ite ?_ ?_)
   | (with_reducible refine LeO.bind ?_ (fun _=>?_))
   | exact impl_NameRight.mono _ _
   | exact impl_RingRight.mono _ _ _
   | exact impl_isLong.mono _ _
   | exact LeO.none _
   | refine LeO.ite ?_ ?_
   | refine LeO.bind ?_ (fun _=>?_)
set_option maxHeartbeats 8000000 in
set_option maxRecDepth 100000 in
theorem impl_isKeyed.calls (k:Nat) (a0_0:Int) (A0_1:Option Addr) (c0_1:Nat) (l0_1:List (S57)) (a1:ByteArray) (r:Bool) (w:World) (hr0_1:Kd.C k57 w A0_1 l0_1.length l0_1) (hc0_1:l0_1.length≤c0_1) (h:impl_isKeyed.f k a0_0 l0_1 a1=some r) :
  Calls Tryd.prog 49 #[.agg #[.int .i64 a0_0,.slice A0_1 l0_1.length c0_1],.string a1] w fun e w'=>e = .returned (.bool r)∧Below w.heap.size w w':=by
 have hu29:=Tryd.underlying29
 have HR0_1:=Aside0.mk hr0_1
 have HC0_1:=Aside0.mk hc0_1
 clear hr0_1 hc0_1
 have HB:=Aside0.mk (Below.refl w.heap.size w)
 have H:((impl_isLong.f k (([a1]:List ByteArray))).bind fun t451=>(if t451=true then (some false) else ((impl_RingRight.f k a0_0 l0_1).bind fun t452=>(if t452=true then ((impl_NameRight.f k a1).bind fun t453=>(some t453)) else (some false)))))=some r:=h
 clear h
 obtain ⟨y448,hy448⟩:∃ y_:List ByteArray,y_=(([a1]:List ByteArray)):=⟨_,rfl⟩
 replace H:((impl_isLong.f k y448).bind fun t451=>(if t451=true then (some false) else ((impl_RingRight.f k a0_0 l0_1).bind fun t452=>(if t452=true then ((impl_NameRight.f k a1).bind fun t453=>(some t453)) else (some false)))))=some r:=by first | (rw [hy448];with_reducible exact H) | (have H2_:=(Option.bind_some _ _).symm.trans H;rw [hy448];with_reducible exact H2_) | (have H2_:=(Option.bind_some _ _).symm.trans H;with_reducible exact H2_) | with_reducible exact H | (rw [hy448];exact H) | exact H
 have Ny448:=Aside0.mk hy448
 clear hy448
 replace H:=Option.bind_eq_some_iff.mp H
 obtain ⟨t451,A30,H⟩:=H
 replace H:(if t451=true then (some false) else ((impl_RingRight.f k a0_0 l0_1).bind fun t452=>(if t452=true then ((impl_NameRight.f k a1).bind fun t453=>(some t453)) else (some false))))=some r:=H
 have A3:=Aside0.mk A30
 clear A30
 by_cases c4:t451=true
 ·subst c4
  have H1:(some false)=some r:=by rw [if_pos rfl] at H;exact H
  clear H
  have H:=H1
  clear H1
  obtain rfl:=Option.some.inj H
  go_enter Tryd.func49,Tryd.ntmps49
  go_wp2_with (first | ((with_reducible refine gd_ 2 ?_);refine be_ 2 #[.int .i64 a0_0,.slice A0_1 l0_1.length c0_1] 29 ?_;intro gb447 hg w5 hbox hb;refine as4_ (below_step (z3_ HB.out) hb) (hbox) ((z8_ HB.out:w.heap.size≤gb447)) ((z8_ HB.out:w.heap.size≤gb447)) ?_;clear HB;intro HB BK447 GW447 GE447;clear hb hbox hg) | ((with_reducible refine gd_ 6 ?_);refine Kd.R_lit Kd.string _ 9 ?hg (N:=6) ?hd (xs:=([a1]:List ByteArray)) (inner:=[.string a1]) (ok:=fun _=>True) (okp:=fun _=>True) ?hr ?hp (fun _ hk=>hk) trivial (Below.refl _ _) (Nat.le_refl _) (by simp) ?_;(case hd=>rfl);(case hg=>rfl);(case hr=>first | (go_simp;done) | (go_simp;rfl));(case hp=>exact (Reps.one (show Kd.M Kd.string _ _ _ a1 [.string a1] from rfl) (Reps.none _ _)));intro v449 w6 ho7 hb hg_ hnew_;clear hg_ hnew_;(first | rw [← Ny448.out] at ho7 | (simp only [Int.reduceToNat] at ho7;rw [← Ny448.out] at ho7));refine as3_ (Kd.R_lower ho7 (below_size (z5_ HB.out GE447.out))) (blkB_ BK447.out hb) (below_step (z5_ HB.out GE447.out) hb) ?_;clear BK447 HB;intro HO450 BK447 HB;clear hb ho7;obtain ⟨Ao8,co8,eo8⟩:=Kd.R_slice HO450.out;subst eo8) | ((with_reducible refine gc_ 72 ?_);refine gl_ (some 7) Tryd.func72 #[.slice Ao8 y448.length co8] ?_;(with_reducible refine (impl_isLong.calls k _ _ y448 true _ ?s1 ?s2 A3.out).mono ?_);(case s1=>repeat (first | exact (Kd.R_reads' HO450.out).2.2 | (with_reducible refine Kd.C_alloc ?_ _) | (with_reducible refine Kd.C_drewN ?_ _) | (with_reducible refine Kd.C_drew ?_)));(case s2=>exact (Kd.R_reads' HO450.out).2.1);rintro e w' ⟨rfl,⟨nd,rfl⟩⟩;refine ⟨_,rfl,?_⟩))
  go_ret
  exact ⟨z10_,z5_ HB.out GE447.out⟩
 ·replace c4:=Bool.eq_false_iff.mpr c4
  subst c4
  have H1:((impl_RingRight.f k a0_0 l0_1).bind fun t452=>(if t452=true then ((impl_NameRight.f k a1).bind fun t453=>(some t453)) else (some false)))=some r:=by rw [if_neg (show ¬ (false=true) by decide)] at H;exact H
  clear H
  have H:=H1
  clear H1
  replace H:=Option.bind_eq_some_iff.mp H
  obtain ⟨t452,A90,H⟩:=H
  replace H:(if t452=true then ((impl_NameRight.f k a1).bind fun t453=>(some t453)) else (some false))=some r:=H
  have A9:=Aside0.mk A90
  clear A90
  by_cases c10:t452=true
  ·subst c10
   have H1:((impl_NameRight.f k a1).bind fun t453=>(some t453))=some r:=by rw [if_pos rfl] at H;exact H
   clear H
   have H:=H1
   clear H1
   replace H:=Option.bind_eq_some_iff.mp H
   obtain ⟨t453,A110,H⟩:=H
   replace H:(some t453)=some r:=H
   have A11:=Aside0.mk A110
   clear A110
   obtain rfl:=Option.some.inj H
   go_enter Tryd.func49,Tryd.ntmps49
   go_wp2_with (first | ((with_reducible refine gd_ 2 ?_);refine be_ 2 #[.int .i64 a0_0,.slice A0_1 l0_1.length c0_1] 29 ?_;intro gb447 hg w12 hbox hb;refine as4_ (below_step (z3_ HB.out) hb) (hbox) ((z8_ HB.out:w.heap.size≤gb447)) ((z8_ HB.out:w.heap.size≤gb447)) ?_;clear HB;intro HB BK447 GW447 GE447;clear hb hbox hg) | ((with_reducible refine gd_ 6 ?_);refine Kd.R_lit Kd.string _ 9 ?hg (N:=6) ?hd (xs:=([a1]:List ByteArray)) (inner:=[.string a1]) (ok:=fun _=>True) (okp:=fun _=>True) ?hr ?hp (fun _ hk=>hk) trivial (Below.refl _ _) (Nat.le_refl _) (by simp) ?_;(case hd=>rfl);(case hg=>rfl);(case hr=>first | (go_simp;done) | (go_simp;rfl));(case hp=>exact (Reps.one (show Kd.M Kd.string _ _ _ a1 [.string a1] from rfl) (Reps.none _ _)));intro v449 w13 ho14 hb hg_ hnew_;clear hg_ hnew_;(first | rw [← Ny448.out] at ho14 | (simp only [Int.reduceToNat] at ho14;rw [← Ny448.out] at ho14));refine as3_ (Kd.R_lower ho14 (below_size (z5_ HB.out GE447.out))) (blkB_ BK447.out hb) (below_step (z5_ HB.out GE447.out) hb) ?_;clear BK447 HB;intro HO450 BK447 HB;clear hb ho14;obtain ⟨Ao15,co15,eo15⟩:=Kd.R_slice HO450.out;subst eo15) | ((with_reducible refine gc_ 72 ?_);refine gl_ (some 7) Tryd.func72 #[.slice Ao15 y448.length co15] ?_;(with_reducible refine (impl_isLong.calls k _ _ y448 false _ ?s1 ?s2 A3.out).mono ?_);(case s1=>repeat (first | exact (Kd.R_reads' HO450.out).2.2 | (with_reducible refine Kd.C_alloc ?_ _) | (with_reducible refine Kd.C_drewN ?_ _) | (with_reducible refine Kd.C_drew ?_)));(case s2=>exact (Kd.R_reads' HO450.out).2.1);rintro e w' ⟨rfl,⟨nd,rfl⟩⟩;refine ⟨_,rfl,?_⟩;have ⟨hcz16_0,hcz16_1,hfz16_0,hfz16_1⟩:=cz2_ BK447.out) | (go_at_call 13;(with_reducible refine (impl_RingRight.calls k a0_0 _ _ l0_1 true _ ?s1 ?s2 A9.out).mono ?_);(case s1=>repeat (first | exact (Kd.C_below HR0_1.out (z5_ HB.out GE447.out)) | (with_reducible refine Kd.C_alloc ?_ _) | (with_reducible refine Kd.C_drewN ?_ _) | (with_reducible refine Kd.C_drew ?_)));(case s2=>exact HC0_1.out);rintro e w17 ⟨rfl,hb⟩;refine as3_ (Kd.R_below (z2_ HO450.out) hb) (blkB_ BK447.out hb) (below_step (z5_ HB.out GE447.out) hb) ?_;clear HO450 BK447 HB;intro HO450 BK447 HB;(try clear hb)) | (go_at_call 73;(with_reducible refine (impl_NameRight.calls k a1 t453 _ A11.out).mono ?_);rintro e w' ⟨rfl,⟨nd,rfl⟩⟩))
   go_ret
   exact ⟨z10_,z5_ HB.out GE447.out⟩
  ·replace c10:=Bool.eq_false_iff.mpr c10
   subst c10
   have H1:(some false)=some r:=by rw [if_neg (show ¬ (false=true) by decide)] at H;exact H
   clear H
   have H:=H1
   clear H1
   obtain rfl:=Option.some.inj H
   go_enter Tryd.func49,Tryd.ntmps49
   go_wp2_with (first | ((with_reducible refine gd_ 2 ?_);refine be_ 2 #[.int .i64 a0_0,.slice A0_1 l0_1.length c0_1] 29 ?_;intro gb447 hg w18 hbox hb;refine as4_ (below_step (z3_ HB.out) hb) (hbox) ((z8_ HB.out:w.heap.size≤gb447)) ((z8_ HB.out:w.heap.size≤gb447)) ?_;clear HB;intro HB BK447 GW447 GE447;clear hb hbox hg) | ((with_reducible refine gd_ 6 ?_);refine Kd.R_lit Kd.string _ 9 ?hg (N:=6) ?hd (xs:=([a1]:List ByteArray)) (inner:=[.string a1]) (ok:=fun _=>True) (okp:=fun _=>True) ?hr ?hp (fun _ hk=>hk) trivial (Below.refl _ _) (Nat.le_refl _) (by simp) ?_;(case hd=>rfl);(case hg=>rfl);(case hr=>first | (go_simp;done) | (go_simp;rfl));(case hp=>exact (Reps.one (show Kd.M Kd.string _ _ _ a1 [.string a1] from rfl) (Reps.none _ _)));intro v449 w19 ho20 hb hg_ hnew_;clear hg_ hnew_;(first | rw [← Ny448.out] at ho20 | (simp only [Int.reduceToNat] at ho20;rw [← Ny448.out] at ho20));refine as3_ (Kd.R_lower ho20 (below_size (z5_ HB.out GE447.out))) (blkB_ BK447.out hb) (below_step (z5_ HB.out GE447.out) hb) ?_;clear BK447 HB;intro HO450 BK447 HB;clear hb ho20;obtain ⟨Ao21,co21,eo21⟩:=Kd.R_slice HO450.out;subst eo21) | ((with_reducible refine gc_ 72 ?_);refine gl_ (some 7) Tryd.func72 #[.slice Ao21 y448.length co21] ?_;(with_reducible refine (impl_isLong.calls k _ _ y448 false _ ?s1 ?s2 A3.out).mono ?_);(case s1=>repeat (first | exact (Kd.R_reads' HO450.out).2.2 | (with_reducible refine Kd.C_alloc ?_ _) | (with_reducible refine Kd.C_drewN ?_ _) | (with_reducible refine Kd.C_drew ?_)));(case s2=>exact (Kd.R_reads' HO450.out).2.1);rintro e w' ⟨rfl,⟨nd,rfl⟩⟩;refine ⟨_,rfl,?_⟩;have ⟨hcz22_0,hcz22_1,hfz22_0,hfz22_1⟩:=cz2_ BK447.out) | (go_at_call 13;(with_reducible refine (impl_RingRight.calls k a0_0 _ _ l0_1 false _ ?s1 ?s2 A9.out).mono ?_);(case s1=>repeat (first | exact (Kd.C_below HR0_1.out (z5_ HB.out GE447.out)) | (with_reducible refine Kd.C_alloc ?_ _) | (with_reducible refine Kd.C_drewN ?_ _) | (with_reducible refine Kd.C_drew ?_)));(case s2=>exact HC0_1.out);rintro e w23 ⟨rfl,hb⟩;refine as3_ (Kd.R_below (z2_ HO450.out) hb) (blkB_ BK447.out hb) (below_step (z5_ HB.out GE447.out) hb) ?_;clear HO450 BK447 HB;intro HO450 BK447 HB;(try clear hb)))
   go_ret
   exact ⟨z10_,z5_ HB.out GE447.out⟩


/-! ### slices_Clone_int64_int64: function 52 -/
def slices_Clone_int64_int64.f (l0:List Int):Option (List Int):=(some (([]:List Int):List Int)).bind fun y539=>(if y539.length+l0.length<17592186044416 then (some (y539 ++ l0)) else (none))
set_option maxHeartbeats 8000000 in
set_option maxRecDepth 100000 in
theorem slices_Clone_int64_int64.calls (A0:Option Addr) (c0:Nat) (l0:List Int) (r:List Int) (w:World) (hr0:Kd.C (Kd.int .i64) w A0 l0.length l0) (hc0:l0.length≤c0) (h:slices_Clone_int64_int64.f l0=some r) :
  Calls Tryd.prog 52 #[.slice A0 l0.length c0] w fun e w'=>∃ v0_:Value,e = .returned (v0_)∧Kd.R (Kd.int .i64) 2 w' w.heap.size (fun _=>True) v0_ r∧Below w.heap.size w w':=by
 have q_:∀ (w:World) (a:Option Addr) (n c n' c':Nat),(binOp .eql 41 (.slice a n c) (.slice none n' c')).run Tryd.prog w = .ok (.bool a.isNone) w:=fun w a n c n' c'=>Lib.run_eql_slice_nil w _ _ a n c n' c' Tryd.underlying41
 by_cases hA0_:A0=none
 ·subst hA0_
  obtain rfl:l0=[]:=by
   cases l0 with
   | nil=>rfl
   | cons a_ t_=>obtain ⟨ad_,c_,e_,_⟩:=Kd.C_get hr0 a_ 0 (by decide) (by simp);cases e_
  obtain rfl:([]:List Int)=r:=by simpa [slices_Clone_int64_int64.f] using h
  clear h hr0
  go_enter Tryd.func52,Tryd.ntmps52
  go_wp2
  go_ret
  exact ⟨.slice none 0 0,rfl,Kd.R_nil _ _ _ _ _,Below.refl _ _⟩
 obtain ⟨A0,rfl⟩:=Option.ne_none_iff_exists'.1 hA0_
 clear hA0_
 have HR0:=Aside0.mk hr0
 have HC0:=Aside0.mk hc0
 clear hr0 hc0
 have HB:=Aside0.mk (Below.refl w.heap.size w)
 have H:((some (([]:List Int):List Int)).bind fun y539=>(if y539.length+l0.length<17592186044416 then (some (y539 ++ l0)) else (none)))=some r:=h
 clear h
 obtain ⟨y539,hy539⟩:∃ y_:List Int,y_=(([]:List Int)):=⟨_,rfl⟩
 replace H:(if y539.length+l0.length<17592186044416 then (some (y539 ++ l0)) else (none))=some r:=by first | (rw [hy539];with_reducible exact H) | (have H2_:=(Option.bind_some _ _).symm.trans H;rw [hy539];with_reducible exact H2_) | (have H2_:=(Option.bind_some _ _).symm.trans H;with_reducible exact H2_) | with_reducible exact H | (rw [hy539];exact H) | exact H
 have Ny539:=Aside0.mk hy539
 clear hy539
 by_cases c2:y539.length+l0.length<17592186044416
 ·rw [if_pos c2] at H
  have LMc2:=Aside0.mk c2
  clear c2
  obtain ⟨y542,hy542⟩:∃ y_:List Int,y_=(y539 ++ l0):=⟨_,rfl⟩
  replace H:(some y542)=some r:=by first | (rw [hy542];with_reducible exact H) | (have H2_:=(Option.bind_some _ _).symm.trans H;rw [hy542];with_reducible exact H2_) | (have H2_:=(Option.bind_some _ _).symm.trans H;with_reducible exact H2_) | with_reducible exact H | (rw [hy542];exact H) | exact H
  have Ny542:=Aside0.mk hy542
  clear hy542
  obtain rfl:=Option.some.inj H
  go_enter Tryd.func52,Tryd.ntmps52
  go_wp2_with (first | ((with_reducible refine gd_ 5 ?_);refine Kd.R_lit (Kd.int .i64) _ 2 ?hg (N:=5) ?hd (xs:=([]:List Int)) (inner:=[]) (ok:=fun _=>True) (okp:=fun _=>True) ?hr ?hp (fun _ hk=>hk) trivial (Below.refl _ _) (Nat.le_refl _) (by simp) ?_;(case hd=>rfl);(case hg=>rfl);(case hr=>first | (go_simp;done) | (go_simp;rfl));(case hp=>exact (Reps.none _ _));intro v540 w3 ho4 hb hg_ hnew_;clear hg_ hnew_;(first | rw [← Ny539.out] at ho4 | (simp only [Int.reduceToNat] at ho4;rw [← Ny539.out] at ho4));refine as2_ (Kd.R_lower ho4 (below_size (z3_ HB.out))) (below_step (z3_ HB.out) hb) ?_;clear HB;intro HO541 HB;clear hb ho4) | ((with_reducible refine gate_builtin (b:=.append) (xs:=#[.tmp 5,.tmp 6]) rfl ?_);at_builtin;refine Kd.R_append_rows (Kd.int .i64) (w0:=w) w.heap.size rfl (.tmp 5) (.tmp 6) 41 2 (.int .i64 0) 8 rfl Tryd.underlying41 info2 rfl (by decide) (by omega) v540 y539 l0 _ _ _ (fun _=>True) (fun _=>False) rfl rfl ?aO ?aR (fun _ _ h=>h) (fun _ h=>h.elim) ?aF ?aB ?aS ?aL ?_;(case aR=>repeat (first | exact (Kd.C_below HR0.out HB.out) | (with_reducible refine Kd.C_alloc ?_ _) | (with_reducible refine Kd.C_drewN ?_ _) | (with_reducible refine Kd.C_drew ?_)));(case aB=>exact (z3_ HB.out));(case aF=>exact (fun _ _=>trivial));(case aO=>exact (z2_ HO541.out));(case aS=>exact (below_size (z3_ HB.out)));(case aL=>have:=LMc2.out;omega);intro v543 w5 ho hb hg hat;rw [← Ny542.out] at ho;refine as2_ (hb) (ho) ?_;clear HB HO541;intro HB HO544;clear ho hb hg hat))
  go_ret
  exact ⟨_,z10_,z2_ HO544.out,z3_ HB.out⟩
 ·rw [if_neg c2] at H
  exact absurd H (by simp)


/-! ### slices_Index_int64_int64: function 88 -/
def slices_Index_int64_int64.l0:Nat→List Int→Int→Int→Int→Option (Int)
 | 0,_,_,_,_=>none
 | k+1,x0,x1,x7,x8=>if x8<x7 then (if 0≤x8 then (if x8<(x0.length:Int) then (if x1=(rd x0 x8) then (some x8) else (slices_Index_int64_int64.l0 k x0 x1 x7 (wrap64 (x8+1)))) else (none)) else (none)) else (some (-1))
def slices_Index_int64_int64.f (k:Nat) (l0:List Int) (a1:Int):Option (Int):=slices_Index_int64_int64.l0 k l0 a1 (l0.length:Int) 0
theorem slices_Index_int64_int64.mono_l:∀ k,(∀ y0 y1 y2 y3,LeO (slices_Index_int64_int64.l0 k y0 y1 y2 y3) (slices_Index_int64_int64.l0 (k+1) y0 y1 y2 y3))
 | 0=>fun _ _ _ _ r h=>by simp [slices_Index_int64_int64.l0] at h
 | k+1=>by
  have ih0:=slices_Index_int64_int64.mono_l k
  ·intro y0 y1 y2 y3
   unfold slices_Index_int64_int64.l0
   repeat' first
   | (with_reducible exact ih0 _ _ _ _)
   | (with_reducible exact LeO.refl _)
   | (with_reducible exact LeO.none _)
   | (with_reducible refine LeO.ite ?_ ?_)
   | (with_reducible refine LeO.bind ?_ (fun _=>?_))
   | exact ih0 _ _ _ _
   | exact LeO.none _
   | refine LeO.ite ?_ ?_
   | refine LeO.bind ?_ (fun _=>?_)
theorem slices_Index_int64_int64.mono:∀ a0 a1 k,LeO (slices_Index_int64_int64.f k a0 a1) (slices_Index_int64_int64.f (k+1) a0 a1):=by
 intro a0 a1 k
 have ih0:=slices_Index_int64_int64.mono_l k
 unfold slices_Index_int64_int64.f
 repeat' first
   | (with_reducible exact ih0 _ _ _ _)
   | (with_reducible exact LeO.refl _)
   | (with_reducible exact LeO.none _)
   | (with_reducible refine LeO.ite ?_ ?_)
   | (with_reducible refine LeO.bind ?_ (fun _=>?_))
   | exact ih0 _ _ _ _
   | exact LeO.none _
   | refine LeO.ite ?_ ?_
   | refine LeO.bind ?_ (fun _=>?_)
set_option maxHeartbeats 8000000 in
set_option maxRecDepth 100000 in
theorem slices_Index_int64_int64.calls (k:Nat) (A0:Option Addr) (c0:Nat) (l0:List Int) (a1:Int) (r:Int) (w:World) (hr0:Kd.C (Kd.int .i64) w A0 l0.length l0) (hc0:l0.length≤c0) (h:slices_Index_int64_int64.f k l0 a1=some r) :
  Calls Tryd.prog 88 #[.slice A0 l0.length c0,.int .i64 a1] w fun e w'=>e = .returned (.int .i64 r)∧Drawn0 w w':=by
 have HR0:=Aside0.mk hr0
 have HC0:=Aside0.mk hc0
 clear hr0 hc0
 have H:(slices_Index_int64_int64.l0 k l0 a1 (l0.length:Int) 0)=some r:=h
 clear h
 have H':=Aside0.mk H
 clear H
 go_enter Tryd.func88,Tryd.ntmps88
 go_wp2
 go_loopg [8] k (fun kq v8 w'=>∃ (x8_1:Int),v8 = .int .i64 x8_1∧Aside0 (slices_Index_int64_int64.l0 kq l0 a1 (l0.length:Int) x8_1=some r)∧Aside0 (kq≤k)∧Drawn0 w w')
 case atStart=>exact ⟨(0),(z1_),H',⟨Nat.le_refl _⟩,z6_⟩
 case round =>
  clear H'
  try clear p2
  obtain ⟨x8_1,rfl,HA,HK1,⟨m1,rfl⟩⟩:=hrel
  cases gk with
  | zero=>exact absurd HA.out (by simp [slices_Index_int64_int64.l0])
  | succ k1 =>
   have H:=HA.out
   clear HA
   simp only [slices_Index_int64_int64.l0] at H
   by_cases c3:x8_1<(l0.length:Int)
   ·rw [if_pos c3] at H
    have c3b0:decide (x8_1<(l0.length:Int))=true:=decide_eq_true c3
    clear c3
    by_cases c4:0≤x8_1
    ·rw [if_pos c4] at H
     have c4b0:decide (0≤x8_1)=true:=decide_eq_true c4
     clear c4
     by_cases c5:x8_1<(l0.length:Int)
     ·rw [if_pos c5] at H
      have c5b0:decide (x8_1<(l0.length:Int))=true:=decide_eq_true c5
      clear c5
      by_cases c6:a1=(rd l0 x8_1)
      ·rw [if_pos c6] at H
       have c6b0:(a1 == (rd l0 x8_1))=true:=beq_iff_eq.mpr c6
       have c6b1:(a1 != (rd l0 x8_1))=false:=bne_eq_false_iff_eq.mpr c6
       clear c6
       obtain rfl:=Option.some.inj H
       have p454:0≤(x8_1:Int):=of_decide_eq_true (z0_)
       have q454:x8_1<(l0.length:Int):=of_decide_eq_true (z0_)
       obtain ⟨ad454,e454,hx454_0⟩:=Kd.at_int HR0.out x8_1 p454 q454
       cases e454
       replace p454:=eq_true p454
       replace q454:=eq_true q454
       go_wp2
       go_ret
       exact ⟨z1_,z6_⟩
      ·rw [if_neg c6] at H
       have c6b0:(a1 == (rd l0 x8_1))=false:=beq_eq_false_iff_ne.mpr c6
       have c6b1:(a1 != (rd l0 x8_1))=true:=bne_iff_ne.mpr c6
       have H':=Aside0.mk H
       clear H
       have p454:0≤(x8_1:Int):=of_decide_eq_true (z0_)
       have q454:x8_1<(l0.length:Int):=of_decide_eq_true (z0_)
       obtain ⟨ad454,e454,hx454_0⟩:=Kd.at_int HR0.out x8_1 p454 q454
       cases e454
       replace p454:=eq_true p454
       replace q454:=eq_true q454
       go_wp2
       go_roundg k1
       case measure=>have:=HK1.out;omega
       case rel=>exact ⟨(wrap64 (x8_1+1)),(z1_),H',⟨by have:=HK1.out;omega⟩,z6_⟩
     ·rw [if_neg c5] at H
      exact absurd H (by simp)
    ·rw [if_neg c4] at H
     exact absurd H (by simp)
   ·rw [if_neg c3] at H
    have c3b0:decide (x8_1<(l0.length:Int))=false:=decide_eq_false c3
    clear c3
    obtain rfl:=Option.some.inj H
    go_wp2
    go_ret
    exact ⟨z1_,z6_⟩


/-! ### slices_Contains_int64_int64: function 76 -/
def slices_Contains_int64_int64.f (k:Nat) (l0:List Int) (a1:Int):Option (Bool):=(slices_Index_int64_int64.f k l0 a1).bind fun t455=>(some (decide (t455≥0)))
theorem slices_Contains_int64_int64.mono:∀ a0 a1 k,LeO (slices_Contains_int64_int64.f k a0 a1) (slices_Contains_int64_int64.f (k+1) a0 a1):=by
 intro a0 a1 k
 unfold slices_Contains_int64_int64.f
 repeat' first
   | (with_reducible exact slices_Index_int64_int64.mono _ _ _)
   | (with_reducible exact LeO.refl _)
   | (with_reducible exact LeO.none _)
   | (with_reducible refine LeO.ite ?_ ?_)
   | (with_reducible refine LeO.bind ?_ (fun _=>?_))
   | exact slices_Index_int64_int64.mono _ _ _
   | exact LeO.none _
   | refine LeO.ite ?_ ?_
   | refine LeO.bind ?_ (fun _=>?_)
set_option maxHeartbeats 8000000 in
set_option maxRecDepth 100000 in
theorem slices_Contains_int64_int64.calls (k:Nat) (A0:Option Addr) (c0:Nat) (l0:List Int) (a1:Int) (r:Bool) (w:World) (hr0:Kd.C (Kd.int .i64) w A0 l0.length l0) (hc0:l0.length≤c0) (h:slices_Contains_int64_int64.f k l0 a1=some r) :
  Calls Tryd.prog 76 #[.slice A0 l0.length c0,.int .i64 a1] w fun e w'=>e = .returned (.bool r)∧Drawn0 w w':=by
 have HR0:=Aside0.mk hr0
 have HC0:=Aside0.mk hc0
 clear hr0 hc0
 have H:((slices_Index_int64_int64.f k l0 a1).bind fun t455=>(some (decide (t455≥0))))=some r:=h
 clear h
 replace H:=Option.bind_eq_some_iff.mp H
 obtain ⟨t455,A30,H⟩:=H
 replace H:(some (decide (t455≥0)))=some r:=H
 have A3:=Aside0.mk A30
 clear A30
 obtain rfl:=Option.some.inj H
 go_enter Tryd.func76,Tryd.ntmps76
 go_wp2_with (first | ((with_reducible refine gc_ 88 ?_);refine gl_ (some 7) Tryd.func88 #[.slice A0 l0.length c0,.int .i64 a1] ?_;(with_reducible refine (slices_Index_int64_int64.calls k _ _ l0 a1 t455 _ ?s1 ?s2 A3.out).mono ?_);(case s1=>repeat (first | exact HR0.out | (with_reducible refine Kd.C_alloc ?_ _) | (with_reducible refine Kd.C_drewN ?_ _) | (with_reducible refine Kd.C_drew ?_)));(case s2=>exact HC0.out);rintro e w' ⟨rfl,⟨nd,rfl⟩⟩;refine ⟨_,rfl,?_⟩))
 go_ret
 exact ⟨z1_,z6_⟩


/-! ### impl_order_1_cap: function 75 -/
def impl_order_1_cap.f (a0_0:Int) (a0_1:Int) (a1_0:Int):Option (Bool):=some (decide (a0_0≥a1_0))
set_option maxHeartbeats 8000000 in
set_option maxRecDepth 100000 in
theorem impl_order_1_cap.calls (a0_0:Int) (a0_1:Int) (gb1:Nat) (a1_0:Int) (r:Bool) (w:World) (hk1:w.heap[gb1]? = some (.cells #[.int .i64 a1_0] 2 (0,0))) (h:impl_order_1_cap.f a0_0 a0_1 a1_0=some r) :
  Calls Tryd.prog 75 #[.agg #[.int .i64 a0_0,.int .i64 a0_1],.pointer (some ⟨gb1,0,none⟩)] w fun e w'=>e = .returned (.bool r)∧Below w.heap.size w w':=by
 have hu57:=Tryd.underlying57
 have BK61:=Aside0.mk hk1
 clear hk1
 have HB:=Aside0.mk (Below.refl w.heap.size w)
 have H:(some (decide (a0_0≥a1_0)))=some r:=h
 clear h
 obtain rfl:=Option.some.inj H
 go_enter Tryd.func75,Tryd.ntmps75
 go_wp2_with (first | ((with_reducible refine gd_ 2 ?_);refine be_ 2 #[.int .i64 a0_0,.int .i64 a0_1] 57 ?_;intro gb456 hg w3 hbox hb;refine as7_ (blkB_ BK61.out hb) (below_step (by repeat (first | (with_reducible first | exact HB.out | apply below_alloc | apply pw_below_drewN | apply below_drew1 | refine below_set ?_ GE61.out) | exact HB.out)) hb) (hbox) ((by rw [hg];exact (below_size (by repeat (first | (with_reducible first | exact HB.out | apply below_alloc | apply pw_below_drewN | apply below_drew1 | refine below_set ?_ GE61.out) | exact HB.out))):w.heap.size≤gb456)) ((by rw [hg];exact (below_size (by repeat (first | (with_reducible first | exact HB.out | apply below_alloc | apply pw_below_drewN | apply below_drew1 | refine below_set ?_ GE61.out) | exact HB.out))):w.heap.size≤gb456)) (neL_ BK61.out hg) (neG_ BK61.out hg) ?_;clear BK61 HB;intro BK61 HB BK456 GW456 GE456 NB61_456 NB456_61;clear hb hbox hg;have hnb4:=NB456_61.out;have hnc4:=NB61_456.out;have ⟨hcz5_0,hcz5_1,hfz5_0,hfz5_1⟩:=cz2_ BK456.out;have ⟨hcz6_0,hfz6_0⟩:=cz1_ BK61.out))
 go_ret
 exact ⟨z10_,by repeat (first | (with_reducible first | exact HB.out | apply below_alloc | apply pw_below_drewN | apply below_drew1 | refine below_set ?_ GE61.out | refine below_set ?_ GE456.out) | exact HB.out)⟩


/-! ### slices_IndexFunc_impl_Token_impl_Token_impl_order_1: function 74 -/
def slices_IndexFunc_impl_Token_impl_Token_impl_order_1.l0:Nat→List (S57)→Int→Int→Int→Option (Int)
 | 0,_,_,_,_=>none
 | k+1,x0,x7,x8,x62000=>if x8<x7 then (if 0≤x8 then (if x8<(x0.length:Int) then ((impl_order_1_cap.f ((rd_T57 x0 x8).f0) ((rd_T57 x0 x8).f1) x62000).bind fun t458=>(if t458=true then (some x8) else (slices_IndexFunc_impl_Token_impl_Token_impl_order_1.l0 k x0 x7 (wrap64 (x8+1)) x62000))) else (none)) else (none)) else (some (-1))
def slices_IndexFunc_impl_Token_impl_Token_impl_order_1.f (k:Nat) (l0:List (S57)) (a1_0:Int):Option (Int):=slices_IndexFunc_impl_Token_impl_Token_impl_order_1.l0 k l0 (l0.length:Int) 0 a1_0
theorem slices_IndexFunc_impl_Token_impl_Token_impl_order_1.mono_l:∀ k,(∀ y0 y1 y2 y3,LeO (slices_IndexFunc_impl_Token_impl_Token_impl_order_1.l0 k y0 y1 y2 y3) (slices_IndexFunc_impl_Token_impl_Token_impl_order_1.l0 (k+1) y0 y1 y2 y3))
 | 0=>fun _ _ _ _ r h=>by simp [slices_IndexFunc_impl_Token_impl_Token_impl_order_1.l0] at h
 | k+1=>by
  have ih0:=slices_IndexFunc_impl_Token_impl_Token_impl_order_1.mono_l k
  ·intro y0 y1 y2 y3
   unfold slices_IndexFunc_impl_Token_impl_Token_impl_order_1.l0
   repeat' first
   | (with_reducible exact ih0 _ _ _ _)
   | (with_reducible exact LeO.refl _)
   | (with_reducible exact LeO.none _)
   | (with_reducible refine LeO.ite ?_ ?_)
   | (with_reducible refine LeO.bind ?_ (fun _=>?_))
   | exact ih0 _ _ _ _
   | exact LeO.none _
   | refine LeO.ite ?_ ?_
   | refine LeO.bind ?_ (fun _=>?_)
theorem slices_IndexFunc_impl_Token_impl_Token_impl_order_1.mono:∀ a0 a1 k,LeO (slices_IndexFunc_impl_Token_impl_Token_impl_order_1.f k a0 a1) (slices_IndexFunc_impl_Token_impl_Token_impl_order_1.f (k+1) a0 a1):=by
 intro a0 a1 k
 have ih0:=slices_IndexFunc_impl_Token_impl_Token_impl_order_1.mono_l k
 unfold slices_IndexFunc_impl_Token_impl_Token_impl_order_1.f
 repeat' first
   | (with_reducible exact ih0 _ _ _ _)
   | (with_reducible exact LeO.refl _)
   | (with_reducible exact LeO.none _)
   | (with_reducible refine LeO.ite ?_ ?_)
   | (with_reducible refine LeO.bind ?_ (fun _=>?_))
   | exact ih0 _ _ _ _
   | exact LeO.none _
   | refine LeO.ite ?_ ?_
   | refine LeO.bind ?_ (fun _=>?_)
set_option maxHeartbeats 8000000 in
set_option maxRecDepth 100000 in
theorem slices_IndexFunc_impl_Token_impl_Token_impl_order_1.calls (k:Nat) (A0:Option Addr) (c0:Nat) (l0:List (S57)) (gb1:Nat) (a1_0:Int) (r:Int) (w:World) (hr0:Kd.C k57 w A0 l0.length l0) (hc0:l0.length≤c0) (hk1:w.heap[gb1]? = some (.cells #[.int .i64 a1_0] 2 (0,0))) (h:slices_IndexFunc_impl_Token_impl_Token_impl_order_1.f k l0 a1_0=some r) :
  Calls Tryd.prog 74 #[.slice A0 l0.length c0,.func (.func 75) #[] #[.pointer (some ⟨gb1,0,none⟩)]] w fun e w'=>e = .returned (.int .i64 r)∧Below w.heap.size w w':=by
 have hu57:=Tryd.underlying57
 have HR0:=Aside0.mk hr0
 have HC0:=Aside0.mk hc0
 clear hr0 hc0
 have BK61:=Aside0.mk hk1
 clear hk1
 have HB:=Aside0.mk (Below.refl w.heap.size w)
 have H:(slices_IndexFunc_impl_Token_impl_Token_impl_order_1.l0 k l0 (l0.length:Int) 0 a1_0)=some r:=h
 clear h
 have H':=Aside0.mk H
 clear H
 go_enter Tryd.func74,Tryd.ntmps74
 go_wp2
 go_loopg [8] k (fun kq v8 w'=>∃ (x8_1:Int),v8 = .int .i64 x8_1∧Aside0 (slices_IndexFunc_impl_Token_impl_Token_impl_order_1.l0 kq l0 (l0.length:Int) x8_1 a1_0=some r)∧Aside0 (kq≤k)∧Aside0 (w'.heap[gb1]? = some (.cells #[.int .i64 a1_0] 2 (0,0)))∧Aside0 (Below w.heap.size w w'))
 case atStart=>exact ⟨(0),(z1_),H',⟨Nat.le_refl _⟩,⟨z4_ BK61.out⟩,⟨by repeat (first | (with_reducible first | exact HB.out | apply below_alloc | apply pw_below_drewN | apply below_drew1 | refine below_set ?_ GE61.out) | exact HB.out)⟩⟩
 case round =>
  clear H'
  try clear p2
  obtain ⟨x8_1,rfl,HA,HK1,BK61,HB⟩:=hrel
  cases gk with
  | zero=>exact absurd HA.out (by simp [slices_IndexFunc_impl_Token_impl_Token_impl_order_1.l0])
  | succ k1 =>
   have H:=HA.out
   clear HA
   simp only [slices_IndexFunc_impl_Token_impl_Token_impl_order_1.l0] at H
   by_cases c3:x8_1<(l0.length:Int)
   ·rw [if_pos c3] at H
    have c3b0:decide (x8_1<(l0.length:Int))=true:=decide_eq_true c3
    clear c3
    by_cases c4:0≤x8_1
    ·rw [if_pos c4] at H
     have c4b0:decide (0≤x8_1)=true:=decide_eq_true c4
     clear c4
     by_cases c5:x8_1<(l0.length:Int)
     ·rw [if_pos c5] at H
      have c5b0:decide (x8_1<(l0.length:Int))=true:=decide_eq_true c5
      clear c5
      replace H:=Option.bind_eq_some_iff.mp H
      obtain ⟨t458,A60,H⟩:=H
      replace H:(if t458=true then (some x8_1) else (slices_IndexFunc_impl_Token_impl_Token_impl_order_1.l0 k1 l0 (l0.length:Int) (wrap64 (x8_1+1)) a1_0))=some r:=H
      have A6:=Aside0.mk A60
      clear A60
      by_cases c7:t458=true
      ·subst c7
       have H1:(some x8_1)=some r:=by rw [if_pos rfl] at H;exact H
       clear H
       have H:=H1
       clear H1
       obtain rfl:=Option.some.inj H
       have p457:0≤(x8_1:Int):=of_decide_eq_true (z0_)
       have q457:x8_1<(l0.length:Int):=of_decide_eq_true (z0_)
       obtain ⟨ad457,e457,hx457_0,hx457_1⟩:=at_T57 HR0.out x8_1 p457 q457
       cases e457
       replace hx457_0:=(HB.out.cell (World.block_lt_of_cell? w _ hx457_0)).trans hx457_0
       replace hx457_1:=(HB.out.cell (World.block_lt_of_cell? w _ hx457_1)).trans hx457_1
       replace p457:=eq_true p457
       replace q457:=eq_true q457
       go_wp2_with (first | (go_at_call 75;(with_reducible refine (impl_order_1_cap.calls ((rd_T57 l0 x8_1).f0) ((rd_T57 l0 x8_1).f1) gb1 a1_0 true _ ?s1 A6.out).mono ?_);(case s1=>(with_reducible repeat (first | refine blk_drewN ?_ _ | refine blk_drew ?_ | refine blk_alloc ?_ _));exact BK61.out);rintro e w8 ⟨rfl,hb⟩;refine as2_ (blkB_ BK61.out hb) (below_step (by repeat (first | (with_reducible first | exact HB.out | apply below_alloc | apply pw_below_drewN | apply below_drew1 | refine below_set ?_ GE61.out) | exact HB.out)) hb) ?_;clear BK61 HB;intro BK61 HB;(try clear hb)))
       go_ret
       exact ⟨z10_,by repeat (first | (with_reducible first | exact HB.out | apply below_alloc | apply pw_below_drewN | apply below_drew1 | refine below_set ?_ GE61.out) | exact HB.out)⟩
      ·replace c7:=Bool.eq_false_iff.mpr c7
       subst c7
       have H1:(slices_IndexFunc_impl_Token_impl_Token_impl_order_1.l0 k1 l0 (l0.length:Int) (wrap64 (x8_1+1)) a1_0)=some r:=by rw [if_neg (show ¬ (false=true) by decide)] at H;exact H
       clear H
       have H:=H1
       clear H1
       have H':=Aside0.mk H
       clear H
       have p457:0≤(x8_1:Int):=of_decide_eq_true (z0_)
       have q457:x8_1<(l0.length:Int):=of_decide_eq_true (z0_)
       obtain ⟨ad457,e457,hx457_0,hx457_1⟩:=at_T57 HR0.out x8_1 p457 q457
       cases e457
       replace hx457_0:=(HB.out.cell (World.block_lt_of_cell? w _ hx457_0)).trans hx457_0
       replace hx457_1:=(HB.out.cell (World.block_lt_of_cell? w _ hx457_1)).trans hx457_1
       replace p457:=eq_true p457
       replace q457:=eq_true q457
       go_wp2_with (first | (go_at_call 75;(with_reducible refine (impl_order_1_cap.calls ((rd_T57 l0 x8_1).f0) ((rd_T57 l0 x8_1).f1) gb1 a1_0 false _ ?s1 A6.out).mono ?_);(case s1=>(with_reducible repeat (first | refine blk_drewN ?_ _ | refine blk_drew ?_ | refine blk_alloc ?_ _));exact BK61.out);rintro e w9 ⟨rfl,hb⟩;refine as2_ (blkB_ BK61.out hb) (below_step (by repeat (first | (with_reducible first | exact HB.out | apply below_alloc | apply pw_below_drewN | apply below_drew1 | refine below_set ?_ GE61.out) | exact HB.out)) hb) ?_;clear BK61 HB;intro BK61 HB;(try clear hb)))
       go_roundg k1
       case measure=>have:=HK1.out;omega
       case rel=>exact ⟨(wrap64 (x8_1+1)),(z1_),H',⟨by have:=HK1.out;omega⟩,⟨z4_ BK61.out⟩,⟨by repeat (first | (with_reducible first | exact HB.out | apply below_alloc | apply pw_below_drewN | apply below_drew1 | refine below_set ?_ GE61.out) | exact HB.out)⟩⟩
     ·rw [if_neg c5] at H
      exact absurd H (by simp)
    ·rw [if_neg c4] at H
     exact absurd H (by simp)
   ·rw [if_neg c3] at H
    have c3b0:decide (x8_1<(l0.length:Int))=false:=decide_eq_false c3
    clear c3
    obtain rfl:=Option.some.inj H
    go_wp2
    go_ret
    exact ⟨z10_,by repeat (first | (with_reducible first | exact HB.out | apply below_alloc | apply pw_below_drewN | apply below_drew1 | refine below_set ?_ GE61.out) | exact HB.out)⟩


/-! ### impl_order: function 50 -/
mutual
def impl_order.j0:Nat→Int→Int→List (S57)→Option (List Int)
 | 0,_,_,_=>none
 | k+1,x6,x460000,x460001=>impl_order.l0 k x6 ([]:List Int) (x460001.length:Int) 0 x460000 x460001
def impl_order.l0:Nat→Int→List Int→Int→Int→Int→List (S57)→Option (List Int)
 | 0,_,_,_,_,_,_=>none
 | k+1,x6,x7,x20,x21,x460000,x460001=>if x21<x20 then (if (x460001.length:Int)=0 then (none) else (if 0≤(Int.tmod (wrap64 (x6+x21)) (x460001.length:Int)) then (if (Int.tmod (wrap64 (x6+x21)) (x460001.length:Int))<(x460001.length:Int) then ((slices_Contains_int64_int64.f k x7 ((rd_T57 x460001 (Int.tmod (wrap64 (x6+x21)) (x460001.length:Int))).f1)).bind fun t464=>(if t464=true then (impl_order.l0 k x6 x7 x20 (wrap64 (x21+1)) x460000 x460001) else (if x7.length<17592186044416 then (impl_order.l0 k x6 (x7 ++ [(rd_T57 x460001 (Int.tmod (wrap64 (x6+x21)) (x460001.length:Int))).f1]) x20 (wrap64 (x21+1)) x460000 x460001) else (none)))) else (none)) else (none))) else (some x7)
end
def impl_order.f (k:Nat) (a0_0:Int) (l0_1:List (S57)) (a1:ByteArray):Option (List Int):=(impl_fnv.f k a1).bind fun t460=>((slices_IndexFunc_impl_Token_impl_Token_impl_order_1.f k l0_1 t460).bind fun t462=>(if t462<0 then (impl_order.j0 k 0 a0_0 l0_1) else (impl_order.j0 k t462 a0_0 l0_1)))
theorem impl_order.mono_l:∀ k,(∀ y0 y1 y2,LeO (impl_order.j0 k y0 y1 y2) (impl_order.j0 (k+1) y0 y1 y2))∧(∀ y0 y1 y2 y3 y4 y5,LeO (impl_order.l0 k y0 y1 y2 y3 y4 y5) (impl_order.l0 (k+1) y0 y1 y2 y3 y4 y5))
 | 0=>⟨fun _ _ _ r h=>by simp [impl_order.j0] at h,fun _ _ _ _ _ _ r h=>by simp [impl_order.l0] at h⟩
 | k+1=>by
  obtain ⟨ih0,ih1⟩:=impl_order.mono_l k
  refine ⟨?_,?_⟩
  ·intro y0 y1 y2
   unfold impl_order.j0
   repeat' first
   | (with_reducible exact ih0 _ _ _)
   | (with_reducible exact ih1 _ _ _ _ _ _)
   | (with_reducible exact impl_fnv.mono _ _)
   | (with_reducible exact slices_Contains_int64_int64.mono _ _ _)
   | (with_reducible exact slices_IndexFunc_impl_Token_impl_Token_impl_order_1.mono _ _ _)
   | (with_reducible exact LeO.refl _)
   | (with_reducible exact LeO.none _)
   | (with_reducible refine LeO.ite ?_ ?_)
   | (with_reducible refine LeO.bind ?_ (fun _=>?_))
   | exact ih0 _ _ _
   | exact ih1 _ _ _ _ _ _
   | exact impl_fnv.mono _ _
   | exact slices_Contains_int64_int64.mono _ _ _
   | exact slices_IndexFunc_impl_Token_impl_Token_impl_order_1.mono _ _ _
   | exact LeO.none _
   | refine LeO.ite ?_ ?_
   | refine LeO.bind ?_ (fun _=>?_)
  ·intro y0 y1 y2 y3 y4 y5
   unfold impl_order.l0
   repeat' first
   | (with_reducible exact ih0 _ _ _)
   | (with_reducible exact ih1 _ _ _ _ _ _)
   | (with_reducible exact impl_fnv.mono _ _)
   | (with_reducible exact slices_Contains_int64_int64.mono _ _ _)
   | (with_reducible exact slices_IndexFunc_impl_Token_impl_Token_impl_order_1.mono _ _ _)
   | (with_reducible exact LeO.refl _)
   | (with_reducible exact LeO.none _)
   | (with_reducible refine LeO.ite ?_ ?_)
   | (with_reducible refine LeO.bind ?_ (fun _=>?_))
   | exact ih0 _ _ _
   | exact ih1 _ _ _ _ _ _
   | exact impl_fnv.mono _ _
   | exact slices_Contains_int64_int64.mono _ _ _
   | exact slices_IndexFunc_impl_Token_impl_Token_impl_order_1.mono _ _ _
   | exact LeO.none _
   | refine LeO.ite ?_ ?_
   | refine LeO.bind ?_ (fun _=>?_)
theorem impl_order.mono:∀ a0 a1 a2 k,LeO (impl_order.f k a0 a1 a2) (impl_order.f (k+1) a0 a1 a2):=by
 intro a0 a1 a2 k
 obtain ⟨ih0,ih1⟩:=impl_order.mono_l k
 unfold impl_order.f
 repeat' first
   | (with_reducible exact ih0 _ _ _)
   | (with_reducible exact ih1 _ _ _ _ _ _)
   | (with_reducible exact impl_fnv.mono _ _)
   | (with_reducible exact slices_Contains_int64_int64.mono _ _ _)
   | (with_reducible exact slices_IndexFunc_impl_Token_impl_Token_impl_order_1.mono _ _ _)
   | (with_reducible exact LeO.refl _)
   | (with_reducible exact LeO.none _)
   | (with_reducible refine LeO.ite ?_ ?_)
   | (with_reducible refine LeO.bind ?_ (fun _=>?_))
   | exact ih0 _ _ _
   | exact ih1 _ _ _ _ _ _
   | exact impl_fnv.mono _ _
   | exact slices_Contains_int64_int64.mono _ _ _
   | exact slices_IndexFunc_impl_Token_impl_Token_impl_order_1.mono _ _ _
   | exact LeO.none _
   | refine LeO.ite ?_ ?_
   | refine LeO.bind ?_ (fun _=>?_)
set_option maxHeartbeats 8000000 in
set_option maxRecDepth 100000 in
theorem impl_order.calls (k:Nat) (a0_0:Int) (A0_1:Option Addr) (c0_1:Nat) (l0_1:List (S57)) (a1:ByteArray) (r:List Int) (w:World) (hr0_1:Kd.C k57 w A0_1 l0_1.length l0_1) (hc0_1:l0_1.length≤c0_1) (h:impl_order.f k a0_0 l0_1 a1=some r) :
  Calls Tryd.prog 50 #[.agg #[.int .i64 a0_0,.slice A0_1 l0_1.length c0_1],.string a1] w fun e w'=>∃ v0_:Value,e = .returned (v0_)∧Kd.R (Kd.int .i64) 2 w' w.heap.size (fun _=>True) v0_ r∧Below w.heap.size w w':=by
 have hu29:=Tryd.underlying29
 have HR0_1:=Aside0.mk hr0_1
 have HC0_1:=Aside0.mk hc0_1
 clear hr0_1 hc0_1
 have HB:=Aside0.mk (Below.refl w.heap.size w)
 have H:((impl_fnv.f k a1).bind fun t460=>((slices_IndexFunc_impl_Token_impl_Token_impl_order_1.f k l0_1 t460).bind fun t462=>(if t462<0 then (impl_order.j0 k 0 a0_0 l0_1) else (impl_order.j0 k t462 a0_0 l0_1))))=some r:=h
 clear h
 replace H:=Option.bind_eq_some_iff.mp H
 obtain ⟨t460,A30,H⟩:=H
 replace H:((slices_IndexFunc_impl_Token_impl_Token_impl_order_1.f k l0_1 t460).bind fun t462=>(if t462<0 then (impl_order.j0 k 0 a0_0 l0_1) else (impl_order.j0 k t462 a0_0 l0_1)))=some r:=H
 have A3:=Aside0.mk A30
 clear A30
 replace H:=Option.bind_eq_some_iff.mp H
 obtain ⟨t462,A40,H⟩:=H
 replace H:(if t462<0 then (impl_order.j0 k 0 a0_0 l0_1) else (impl_order.j0 k t462 a0_0 l0_1))=some r:=H
 have A4:=Aside0.mk A40
 clear A40
 have HC5:=Aside0.mk H
 clear H
 go_enter Tryd.func50,Tryd.ntmps50
 go_upto_if 17 with (first | ((with_reducible refine gd_ 2 ?_);refine be_ 2 #[.int .i64 a0_0,.slice A0_1 l0_1.length c0_1] 29 ?_;intro gb459 hg w6 hbox hb;refine as4_ (below_step (z3_ HB.out) hb) (hbox) ((z8_ HB.out:w.heap.size≤gb459)) ((z8_ HB.out:w.heap.size≤gb459)) ?_;clear HB;intro HB BK459 GW459 GE459;clear hb hbox hg) | (go_at_call 64;(with_reducible refine (impl_fnv.calls k a1 t460 _ A3.out).mono ?_);rintro e w' ⟨rfl,⟨nd,rfl⟩⟩;(try first | exact ⟨rfl,_,World.drewN_drewN _ _ _⟩ | exact ⟨rfl,_,Eq.trans (World.drewN_drewN _ _ _) (congrArg (World.drewN _) (Nat.add_assoc _ _ _))⟩)) | ((with_reducible refine gd_ 5 ?_);refine be_ 5 #[.int .i64 0] 2 ?_;intro gb461 hg w7 hbox hb;refine as7_ (blkB_ BK459.out hb) (below_step (z5_ HB.out GE459.out) hb) (hbox) ((z12_ HB.out GE459.out:w.heap.size≤gb461)) ((z12_ HB.out GE459.out:w.heap.size≤gb461)) (neL_ BK459.out hg) (neG_ BK459.out hg) ?_;clear BK459 HB;intro BK459 HB BK461 GW461 GE461 NB459_461 NB461_459;clear hb hbox hg;have hnb8:=NB461_459.out;have hnc8:=NB459_461.out;have ⟨hcz9_0,hfz9_0⟩:=cz1_ BK461.out;have ⟨hcz10_0,hcz10_1,hfz10_0,hfz10_1⟩:=cz2_ BK459.out) | (go_at_call 74;(with_reducible refine (slices_IndexFunc_impl_Token_impl_Token_impl_order_1.calls k _ _ l0_1 gb461 t460 t462 _ ?s1 ?s2 ?s3 A4.out).mono ?_);(case s1=>exact Kd.C_below HR0_1.out (z7_ HB.out GE459.out GE461.out));(case s2=>exact HC0_1.out);(case s3=>(with_reducible repeat (first | refine blk_drewN ?_ _ | refine blk_drew ?_ | refine blk_alloc ?_ _));refine blk_put (cs:=#[.int .i64 0]) ?_ 0 _ rfl;(with_reducible repeat (first | refine blk_drewN ?_ _ | refine blk_drew ?_ | refine blk_alloc ?_ _));exact BK461.out);rintro e w11 ⟨rfl,hb⟩;refine as3_ (blk_below (g:=gb459) (o:=.cells #[.int .i64 a0_0,.slice A0_1 l0_1.length c0_1] 29 (0,0)) (z22_ NB459_461.out BK459.out) hb) (blk_below (g:=gb461) (o:=.cells #[.int .i64 t460] 2 (0,0)) (z40_ BK461.out) hb) (below_step (z7_ HB.out GE459.out GE461.out) hb) ?_;clear BK459 BK461 HB;intro BK459 BK461 HB;(try clear hb)))
 repeat (go_quiet (first | ((with_reducible refine gd_ 2 ?_);refine be_ 2 #[.int .i64 a0_0,.slice A0_1 l0_1.length c0_1] 29 ?_;intro gb459 hg w6 hbox hb;refine as4_ (below_step (z3_ HB.out) hb) (hbox) ((z8_ HB.out:w.heap.size≤gb459)) ((z8_ HB.out:w.heap.size≤gb459)) ?_;clear HB;intro HB BK459 GW459 GE459;clear hb hbox hg) | (go_at_call 64;(with_reducible refine (impl_fnv.calls k a1 t460 _ A3.out).mono ?_);rintro e w' ⟨rfl,⟨nd,rfl⟩⟩;(try first | exact ⟨rfl,_,World.drewN_drewN _ _ _⟩ | exact ⟨rfl,_,Eq.trans (World.drewN_drewN _ _ _) (congrArg (World.drewN _) (Nat.add_assoc _ _ _))⟩)) | ((with_reducible refine gd_ 5 ?_);refine be_ 5 #[.int .i64 0] 2 ?_;intro gb461 hg w7 hbox hb;refine as7_ (blkB_ BK459.out hb) (below_step (z5_ HB.out GE459.out) hb) (hbox) ((z12_ HB.out GE459.out:w.heap.size≤gb461)) ((z12_ HB.out GE459.out:w.heap.size≤gb461)) (neL_ BK459.out hg) (neG_ BK459.out hg) ?_;clear BK459 HB;intro BK459 HB BK461 GW461 GE461 NB459_461 NB461_459;clear hb hbox hg;have hnb8:=NB461_459.out;have hnc8:=NB459_461.out;have ⟨hcz9_0,hfz9_0⟩:=cz1_ BK461.out;have ⟨hcz10_0,hcz10_1,hfz10_0,hfz10_1⟩:=cz2_ BK459.out) | (go_at_call 74;(with_reducible refine (slices_IndexFunc_impl_Token_impl_Token_impl_order_1.calls k _ _ l0_1 gb461 t460 t462 _ ?s1 ?s2 ?s3 A4.out).mono ?_);(case s1=>exact Kd.C_below HR0_1.out (z7_ HB.out GE459.out GE461.out));(case s2=>exact HC0_1.out);(case s3=>(with_reducible repeat (first | refine blk_drewN ?_ _ | refine blk_drew ?_ | refine blk_alloc ?_ _));refine blk_put (cs:=#[.int .i64 0]) ?_ 0 _ rfl;(with_reducible repeat (first | refine blk_drewN ?_ _ | refine blk_drew ?_ | refine blk_alloc ?_ _));exact BK461.out);rintro e w11 ⟨rfl,hb⟩;refine as3_ (blk_below (g:=gb459) (o:=.cells #[.int .i64 a0_0,.slice A0_1 l0_1.length c0_1] 29 (0,0)) (z22_ NB459_461.out BK459.out) hb) (blk_below (g:=gb461) (o:=.cells #[.int .i64 t460] 2 (0,0)) (z40_ BK461.out) hb) (below_step (z7_ HB.out GE459.out GE461.out) hb) ?_;clear BK459 BK461 HB;intro BK459 BK461 HB;(try clear hb)));go_upto_if 17 with (first | ((with_reducible refine gd_ 2 ?_);refine be_ 2 #[.int .i64 a0_0,.slice A0_1 l0_1.length c0_1] 29 ?_;intro gb459 hg w6 hbox hb;refine as4_ (below_step (z3_ HB.out) hb) (hbox) ((z8_ HB.out:w.heap.size≤gb459)) ((z8_ HB.out:w.heap.size≤gb459)) ?_;clear HB;intro HB BK459 GW459 GE459;clear hb hbox hg) | (go_at_call 64;(with_reducible refine (impl_fnv.calls k a1 t460 _ A3.out).mono ?_);rintro e w' ⟨rfl,⟨nd,rfl⟩⟩;(try first | exact ⟨rfl,_,World.drewN_drewN _ _ _⟩ | exact ⟨rfl,_,Eq.trans (World.drewN_drewN _ _ _) (congrArg (World.drewN _) (Nat.add_assoc _ _ _))⟩)) | ((with_reducible refine gd_ 5 ?_);refine be_ 5 #[.int .i64 0] 2 ?_;intro gb461 hg w7 hbox hb;refine as7_ (blkB_ BK459.out hb) (below_step (z5_ HB.out GE459.out) hb) (hbox) ((z12_ HB.out GE459.out:w.heap.size≤gb461)) ((z12_ HB.out GE459.out:w.heap.size≤gb461)) (neL_ BK459.out hg) (neG_ BK459.out hg) ?_;clear BK459 HB;intro BK459 HB BK461 GW461 GE461 NB459_461 NB461_459;clear hb hbox hg;have hnb8:=NB461_459.out;have hnc8:=NB459_461.out;have ⟨hcz9_0,hfz9_0⟩:=cz1_ BK461.out;have ⟨hcz10_0,hcz10_1,hfz10_0,hfz10_1⟩:=cz2_ BK459.out) | (go_at_call 74;(with_reducible refine (slices_IndexFunc_impl_Token_impl_Token_impl_order_1.calls k _ _ l0_1 gb461 t460 t462 _ ?s1 ?s2 ?s3 A4.out).mono ?_);(case s1=>exact Kd.C_below HR0_1.out (z7_ HB.out GE459.out GE461.out));(case s2=>exact HC0_1.out);(case s3=>(with_reducible repeat (first | refine blk_drewN ?_ _ | refine blk_drew ?_ | refine blk_alloc ?_ _));refine blk_put (cs:=#[.int .i64 0]) ?_ 0 _ rfl;(with_reducible repeat (first | refine blk_drewN ?_ _ | refine blk_drew ?_ | refine blk_alloc ?_ _));exact BK461.out);rintro e w11 ⟨rfl,hb⟩;refine as3_ (blk_below (g:=gb459) (o:=.cells #[.int .i64 a0_0,.slice A0_1 l0_1.length c0_1] 29 (0,0)) (z22_ NB459_461.out BK459.out) hb) (blk_below (g:=gb461) (o:=.cells #[.int .i64 t460] 2 (0,0)) (z40_ BK461.out) hb) (below_step (z7_ HB.out GE459.out GE461.out) hb) ?_;clear BK459 BK461 HB;intro BK459 BK461 HB;(try clear hb))))
 (try simp only [Act.put,sa_,s0_,ss_])
 go_cut [6] (fun v6 wc=>∃ (kq:Nat) (x6_4:Int),v6 = .int .i64 x6_4∧Aside0 (impl_order.j0 kq x6_4 a0_0 l0_1=some r)∧Aside0 (kq≤k)∧Aside0 (wc.heap[gb459]? = some (.cells #[.int .i64 a0_0,(.slice A0_1 l0_1.length c0_1)] 29 (0,0)))∧Aside0 True∧Aside0 (Below w.heap.size w wc))
 case first =>
  have H:=HC5.out
  clear HC5
  by_cases c12:t462<0
  ·rw [if_pos c12] at H
   have c12b0:decide (t462<0)=true:=decide_eq_true c12
   clear c12
   (first | rw [c12b0] | (simp only [i64_w,i32_w];rw [c12b0]) | skip)
   have H':=Aside0.mk H
   clear H
   go_wp2
   repeat (go_quiet (fail);try go_wp2)
   go_meet
   case rel=>exact ⟨_,(0),(z1_),H',⟨by first | omega | exact Nat.le_refl _⟩,⟨z4_ BK459.out⟩,⟨trivial⟩,⟨z7_ HB.out GE459.out GE461.out⟩⟩
  ·rw [if_neg c12] at H
   have c12b0:decide (t462<0)=false:=decide_eq_false c12
   clear c12
   (first | rw [c12b0] | (simp only [i64_w,i32_w];rw [c12b0]) | skip)
   have H':=Aside0.mk H
   clear H
   go_wp2
   repeat (go_quiet (fail);try go_wp2)
   go_meet
   case rel=>exact ⟨_,(t462),(z1_),H',⟨by first | omega | exact Nat.le_refl _⟩,⟨z4_ BK459.out⟩,⟨trivial⟩,⟨z7_ HB.out GE459.out GE461.out⟩⟩
 case rest =>
  clear HC5
  try clear c1
  try clear p2
  try clear c5
  try clear c8
  try clear c12
  try clear c12b0
  try clear hcz10_0
  try clear hcz10_1
  try clear hcz9_0
  try clear hfz10_0
  try clear hfz10_1
  try clear hfz9_0
  obtain ⟨kq,x6_4,rfl,HA,HJ4,BK459,BK461,HB⟩:=hcut
  cases kq with
  | zero=>exact absurd HA.out (by simp [impl_order.j0])
  | succ kj4 =>
   have H:=HA.out
   clear HA
   simp only [impl_order.j0] at H
   have H':=Aside0.mk H
   clear H
   have hnb13:=NB459_461.out
   have hnc13:=NB461_459.out
   have ⟨hcz14_0,hcz14_1,hfz14_0,hfz14_1⟩:=cz2_ BK459.out
   go_wp2
   repeat (go_quiet (fail);try go_wp2)
   go_loopg [7,21] kj4 (fun kq v7 v21 w'=>∃ (x7_2:List Int) (x21_2:Int),v21 = .int .i64 x21_2∧Aside0 (impl_order.l0 kq x6_4 x7_2 (l0_1.length:Int) x21_2 a0_0 l0_1=some r)∧Aside0 (kq≤kj4)∧Aside0 (Kd.R (Kd.int .i64) 2 w' w.heap.size (fun _=>True) v7 x7_2)∧Aside0 (w'.heap[gb459]? = some (.cells #[.int .i64 a0_0,(.slice A0_1 l0_1.length c0_1)] 29 (0,0)))∧Aside0 True∧Aside0 (Below w.heap.size w w'))
   case atStart=>exact ⟨(([]:List Int)),(0),(z1_),H',⟨Nat.le_refl _⟩,⟨z31_⟩,⟨z4_ BK459.out⟩,⟨trivial⟩,⟨z7_ HB.out GE459.out GE461.out⟩⟩
   case round =>
    clear H'
    try clear c1
    try clear p2
    try clear c5
    try clear c8
    try clear c12
    try clear c12b0
    try clear c13
    try clear hcz10_0
    try clear hcz10_1
    try clear hcz14_0
    try clear hcz14_1
    try clear hcz9_0
    try clear hfz10_0
    try clear hfz10_1
    try clear hfz14_0
    try clear hfz14_1
    try clear hfz9_0
    try clear p2
    obtain ⟨x7_2,x21_2,rfl,HA,HK2,HO_7,BK459,BK461,HB⟩:=hrel
    cases gk with
    | zero=>exact absurd HA.out (by simp [impl_order.l0])
    | succ k2 =>
     have H:=HA.out
     clear HA
     simp only [impl_order.l0] at H
     by_cases c15:x21_2<(l0_1.length:Int)
     ·rw [if_pos c15] at H
      have c15b0:decide (x21_2<(l0_1.length:Int))=true:=decide_eq_true c15
      clear c15
      by_cases c16:(l0_1.length:Int)=0
      ·rw [if_pos c16] at H
       exact absurd H (by simp)
      ·rw [if_neg c16] at H
       have c16b0:((l0_1.length:Int) == 0)=false:=beq_eq_false_iff_ne.mpr c16
       have c16b1:((l0_1.length:Int) != 0)=true:=bne_iff_ne.mpr c16
       have c16b2:¬ (l0_1=[]):=fun h_=>c16 (by rw [h_];rfl)
       obtain ⟨ji17,hji17⟩:∃ j_:Int,(Int.tmod (wrap64 (x6_4+x21_2)) (l0_1.length:Int))=j_:=⟨_,rfl⟩
       replace H:(if 0≤(ji17) then (if (ji17)<(l0_1.length:Int) then ((slices_Contains_int64_int64.f k2 x7_2 ((rd_T57 l0_1 (ji17)).f1)).bind fun t464=>(if t464=true then (impl_order.l0 k2 x6_4 x7_2 (l0_1.length:Int) (wrap64 (x21_2+1)) a0_0 l0_1) else (if x7_2.length<17592186044416 then (impl_order.l0 k2 x6_4 (x7_2 ++ [(rd_T57 l0_1 (ji17)).f1]) (l0_1.length:Int) (wrap64 (x21_2+1)) a0_0 l0_1) else (none)))) else (none)) else (none))=some r:=by first | (rw [hji17] at H;exact H) | (simp only [hji17] at H ⊢;exact H)
       by_cases c18:0≤(ji17)
       ·rw [if_pos c18] at H
        have c18b0:decide (0≤(ji17))=true:=decide_eq_true c18
        clear c18
        by_cases c19:(ji17)<(l0_1.length:Int)
        ·rw [if_pos c19] at H
         have c19b0:decide ((ji17)<(l0_1.length:Int))=true:=decide_eq_true c19
         clear c19
         replace H:=Option.bind_eq_some_iff.mp H
         obtain ⟨t464,A200,H⟩:=H
         replace H:(if t464=true then (impl_order.l0 k2 x6_4 x7_2 (l0_1.length:Int) (wrap64 (x21_2+1)) a0_0 l0_1) else (if x7_2.length<17592186044416 then (impl_order.l0 k2 x6_4 (x7_2 ++ [(rd_T57 l0_1 (ji17)).f1]) (l0_1.length:Int) (wrap64 (x21_2+1)) a0_0 l0_1) else (none)))=some r:=H
         have A20:=Aside0.mk A200
         clear A200
         by_cases c21:t464=true
         ·subst c21
          have H1:(impl_order.l0 k2 x6_4 x7_2 (l0_1.length:Int) (wrap64 (x21_2+1)) a0_0 l0_1)=some r:=by rw [if_pos rfl] at H;exact H
          clear H
          have H:=H1
          clear H1
          have H':=Aside0.mk H
          clear H
          have hnb22:=NB459_461.out
          have hnc22:=NB461_459.out
          have ⟨hcz23_0,hcz23_1,hfz23_0,hfz23_1⟩:=cz2_ BK459.out
          have p463:0≤((ji17):Int):=of_decide_eq_true (z0_)
          have q463:(ji17)<(l0_1.length:Int):=of_decide_eq_true (z0_)
          obtain ⟨ad463,e463,hx463_0,hx463_1⟩:=at_T57 HR0_1.out (ji17) p463 q463
          cases e463
          replace hx463_0:=(HB.out.cell (World.block_lt_of_cell? w _ hx463_0)).trans hx463_0
          replace hx463_1:=(HB.out.cell (World.block_lt_of_cell? w _ hx463_1)).trans hx463_1
          replace p463:=eq_true p463
          replace q463:=eq_true q463
          obtain ⟨Ao24,co24,eo24⟩:=Kd.R_slice HO_7.out
          subst eo24
          go_wp2_with (first | (go_at_call 76;(with_reducible refine (slices_Contains_int64_int64.calls k2 _ _ x7_2 ((rd_T57 l0_1 (ji17)).f1) true _ ?s1 ?s2 A20.out).mono ?_);(case s1=>repeat (first | exact (Kd.R_reads' HO_7.out).2.2 | (with_reducible refine Kd.C_alloc ?_ _) | (with_reducible refine Kd.C_drewN ?_ _) | (with_reducible refine Kd.C_drew ?_)));(case s2=>exact (Kd.R_reads' HO_7.out).2.1);rintro e w' ⟨rfl,⟨nd,rfl⟩⟩;(try first | exact ⟨rfl,_,World.drewN_drewN _ _ _⟩ | exact ⟨rfl,_,Eq.trans (World.drewN_drewN _ _ _) (congrArg (World.drewN _) (Nat.add_assoc _ _ _))⟩)))
          repeat (go_quiet (first | (go_at_call 76;(with_reducible refine (slices_Contains_int64_int64.calls k2 _ _ x7_2 ((rd_T57 l0_1 (ji17)).f1) true _ ?s1 ?s2 A20.out).mono ?_);(case s1=>repeat (first | exact (Kd.R_reads' HO_7.out).2.2 | (with_reducible refine Kd.C_alloc ?_ _) | (with_reducible refine Kd.C_drewN ?_ _) | (with_reducible refine Kd.C_drew ?_)));(case s2=>exact (Kd.R_reads' HO_7.out).2.1);rintro e w' ⟨rfl,⟨nd,rfl⟩⟩;(try first | exact ⟨rfl,_,World.drewN_drewN _ _ _⟩ | exact ⟨rfl,_,Eq.trans (World.drewN_drewN _ _ _) (congrArg (World.drewN _) (Nat.add_assoc _ _ _))⟩)));try go_wp2_with (first | (go_at_call 76;(with_reducible refine (slices_Contains_int64_int64.calls k2 _ _ x7_2 ((rd_T57 l0_1 (ji17)).f1) true _ ?s1 ?s2 A20.out).mono ?_);(case s1=>repeat (first | exact (Kd.R_reads' HO_7.out).2.2 | (with_reducible refine Kd.C_alloc ?_ _) | (with_reducible refine Kd.C_drewN ?_ _) | (with_reducible refine Kd.C_drew ?_)));(case s2=>exact (Kd.R_reads' HO_7.out).2.1);rintro e w' ⟨rfl,⟨nd,rfl⟩⟩;(try first | exact ⟨rfl,_,World.drewN_drewN _ _ _⟩ | exact ⟨rfl,_,Eq.trans (World.drewN_drewN _ _ _) (congrArg (World.drewN _) (Nat.add_assoc _ _ _))⟩))))
          go_roundg k2
          case measure=>have:=HJ4.out;have:=HK2.out;omega
          case rel=>exact ⟨(x7_2),(wrap64 (x21_2+1)),(z1_),H',⟨z13_ HJ4.out HK2.out⟩,⟨z2_ HO_7.out⟩,⟨z4_ BK459.out⟩,⟨trivial⟩,⟨z7_ HB.out GE459.out GE461.out⟩⟩
         ·replace c21:=Bool.eq_false_iff.mpr c21
          subst c21
          have H1:(if x7_2.length<17592186044416 then (impl_order.l0 k2 x6_4 (x7_2 ++ [(rd_T57 l0_1 (ji17)).f1]) (l0_1.length:Int) (wrap64 (x21_2+1)) a0_0 l0_1) else (none))=some r:=by rw [if_neg (show ¬ (false=true) by decide)] at H;exact H
          clear H
          have H:=H1
          clear H1
          by_cases c25:x7_2.length<17592186044416
          ·rw [if_pos c25] at H
           have LMc25:=Aside0.mk c25
           clear c25
           obtain ⟨y465,hy465⟩:∃ y_:List Int,y_=(x7_2 ++ [(rd_T57 l0_1 (ji17)).f1]):=⟨_,rfl⟩
           replace H:(impl_order.l0 k2 x6_4 y465 (l0_1.length:Int) (wrap64 (x21_2+1)) a0_0 l0_1)=some r:=by first | (rw [hy465];with_reducible exact H) | (have H2_:=(Option.bind_some _ _).symm.trans H;rw [hy465];with_reducible exact H2_) | (have H2_:=(Option.bind_some _ _).symm.trans H;with_reducible exact H2_) | with_reducible exact H | (rw [hy465];exact H) | exact H
           have Ny465:=Aside0.mk hy465
           clear hy465
           have H':=Aside0.mk H
           clear H
           have hnb26:=NB459_461.out
           have hnc26:=NB461_459.out
           have ⟨hcz27_0,hcz27_1,hfz27_0,hfz27_1⟩:=cz2_ BK459.out
           have p463:0≤((ji17):Int):=of_decide_eq_true (z0_)
           have q463:(ji17)<(l0_1.length:Int):=of_decide_eq_true (z0_)
           obtain ⟨ad463,e463,hx463_0,hx463_1⟩:=at_T57 HR0_1.out (ji17) p463 q463
           cases e463
           replace hx463_0:=(HB.out.cell (World.block_lt_of_cell? w _ hx463_0)).trans hx463_0
           replace hx463_1:=(HB.out.cell (World.block_lt_of_cell? w _ hx463_1)).trans hx463_1
           replace p463:=eq_true p463
           replace q463:=eq_true q463
           obtain ⟨Ao28,co28,eo28⟩:=Kd.R_slice HO_7.out
           subst eo28
           go_wp2_with (first | (go_at_call 76;(with_reducible refine (slices_Contains_int64_int64.calls k2 _ _ x7_2 ((rd_T57 l0_1 (ji17)).f1) false _ ?s1 ?s2 A20.out).mono ?_);(case s1=>repeat (first | exact (Kd.R_reads' HO_7.out).2.2 | (with_reducible refine Kd.C_alloc ?_ _) | (with_reducible refine Kd.C_drewN ?_ _) | (with_reducible refine Kd.C_drew ?_)));(case s2=>exact (Kd.R_reads' HO_7.out).2.1);rintro e w' ⟨rfl,⟨nd,rfl⟩⟩;(try first | exact ⟨rfl,_,World.drewN_drewN _ _ _⟩ | exact ⟨rfl,_,Eq.trans (World.drewN_drewN _ _ _) (congrArg (World.drewN _) (Nat.add_assoc _ _ _))⟩)) | ((with_reducible refine gate_builtin (b:=.append) (xs:=#[.tmp 40,.tmp 42]) rfl ?_);at_builtin;refine Kd.R_append (Kd.int .i64) (w0:=w) w.heap.size rfl (.tmp 40) (.tmp 42) 41 2 (.int .i64 0) 8 rfl Tryd.underlying41 info2 rfl (by decide) (by omega) (.slice Ao28 x7_2.length co28) x7_2 ((rd_T57 l0_1 (ji17)).f1) [.int .i64 ((rd_T57 l0_1 (ji17)).f1)] (fun _=>True) (fun _=>False) rfl rfl ?aP (fun _ hk=>hk.elim) ?aF ?aO ?aB ?aS ?aL ?_;(case aP=>exact rfl);(case aB=>exact (z7_ HB.out GE459.out GE461.out));(case aF=>exact (fun _ _=>trivial));(case aO=>exact (z2_ HO_7.out));(case aS=>exact (below_size (z7_ HB.out GE459.out GE461.out)));(case aL=>have:=LMc25.out;omega);intro v466 w29 ho hb hg hat;rw [← Ny465.out] at ho;have n0_:=Aside0.mk (blk_grown (g:=gb459) (o:=.cells #[.int .i64 a0_0,.slice (some ad463) l0_1.length c0_1] 29 (0,0)) (z4_ BK459.out) hg (Kd.R_ne HO_7.out BK459.out (by decide)));have n1_:=Aside0.mk trivial;have n2_:=Aside0.mk (hb);have n3_:=Aside0.mk (ho);clear BK459;clear BK461;clear HB;clear HO_7;have BK459:=n0_;have BK461:=n1_;have HB:=n2_;have HO467:=n3_;clear n0_ n1_ n2_ n3_;clear ho hb hg hat))
           repeat (go_quiet (first | (go_at_call 76;(with_reducible refine (slices_Contains_int64_int64.calls k2 _ _ x7_2 ((rd_T57 l0_1 (ji17)).f1) false _ ?s1 ?s2 A20.out).mono ?_);(case s1=>repeat (first | exact (Kd.R_reads' HO_7.out).2.2 | (with_reducible refine Kd.C_alloc ?_ _) | (with_reducible refine Kd.C_drewN ?_ _) | (with_reducible refine Kd.C_drew ?_)));(case s2=>exact (Kd.R_reads' HO_7.out).2.1);rintro e w' ⟨rfl,⟨nd,rfl⟩⟩;(try first | exact ⟨rfl,_,World.drewN_drewN _ _ _⟩ | exact ⟨rfl,_,Eq.trans (World.drewN_drewN _ _ _) (congrArg (World.drewN _) (Nat.add_assoc _ _ _))⟩)) | ((with_reducible refine gate_builtin (b:=.append) (xs:=#[.tmp 40,.tmp 42]) rfl ?_);at_builtin;refine Kd.R_append (Kd.int .i64) (w0:=w) w.heap.size rfl (.tmp 40) (.tmp 42) 41 2 (.int .i64 0) 8 rfl Tryd.underlying41 info2 rfl (by decide) (by omega) (.slice Ao28 x7_2.length co28) x7_2 ((rd_T57 l0_1 (ji17)).f1) [.int .i64 ((rd_T57 l0_1 (ji17)).f1)] (fun _=>True) (fun _=>False) rfl rfl ?aP (fun _ hk=>hk.elim) ?aF ?aO ?aB ?aS ?aL ?_;(case aP=>exact rfl);(case aB=>exact (z7_ HB.out GE459.out GE461.out));(case aF=>exact (fun _ _=>trivial));(case aO=>exact (z2_ HO_7.out));(case aS=>exact (below_size (z7_ HB.out GE459.out GE461.out)));(case aL=>have:=LMc25.out;omega);intro v466 w29 ho hb hg hat;rw [← Ny465.out] at ho;have n0_:=Aside0.mk (blk_grown (g:=gb459) (o:=.cells #[.int .i64 a0_0,.slice (some ad463) l0_1.length c0_1] 29 (0,0)) (z4_ BK459.out) hg (Kd.R_ne HO_7.out BK459.out (by decide)));have n1_:=Aside0.mk trivial;have n2_:=Aside0.mk (hb);have n3_:=Aside0.mk (ho);clear BK459;clear BK461;clear HB;clear HO_7;have BK459:=n0_;have BK461:=n1_;have HB:=n2_;have HO467:=n3_;clear n0_ n1_ n2_ n3_;clear ho hb hg hat));try go_wp2_with (first | (go_at_call 76;(with_reducible refine (slices_Contains_int64_int64.calls k2 _ _ x7_2 ((rd_T57 l0_1 (ji17)).f1) false _ ?s1 ?s2 A20.out).mono ?_);(case s1=>repeat (first | exact (Kd.R_reads' HO_7.out).2.2 | (with_reducible refine Kd.C_alloc ?_ _) | (with_reducible refine Kd.C_drewN ?_ _) | (with_reducible refine Kd.C_drew ?_)));(case s2=>exact (Kd.R_reads' HO_7.out).2.1);rintro e w' ⟨rfl,⟨nd,rfl⟩⟩;(try first | exact ⟨rfl,_,World.drewN_drewN _ _ _⟩ | exact ⟨rfl,_,Eq.trans (World.drewN_drewN _ _ _) (congrArg (World.drewN _) (Nat.add_assoc _ _ _))⟩)) | ((with_reducible refine gate_builtin (b:=.append) (xs:=#[.tmp 40,.tmp 42]) rfl ?_);at_builtin;refine Kd.R_append (Kd.int .i64) (w0:=w) w.heap.size rfl (.tmp 40) (.tmp 42) 41 2 (.int .i64 0) 8 rfl Tryd.underlying41 info2 rfl (by decide) (by omega) (.slice Ao28 x7_2.length co28) x7_2 ((rd_T57 l0_1 (ji17)).f1) [.int .i64 ((rd_T57 l0_1 (ji17)).f1)] (fun _=>True) (fun _=>False) rfl rfl ?aP (fun _ hk=>hk.elim) ?aF ?aO ?aB ?aS ?aL ?_;(case aP=>exact rfl);(case aB=>exact (z7_ HB.out GE459.out GE461.out));(case aF=>exact (fun _ _=>trivial));(case aO=>exact (z2_ HO_7.out));(case aS=>exact (below_size (z7_ HB.out GE459.out GE461.out)));(case aL=>have:=LMc25.out;omega);intro v466 w29 ho hb hg hat;rw [← Ny465.out] at ho;have n0_:=Aside0.mk (blk_grown (g:=gb459) (o:=.cells #[.int .i64 a0_0,.slice (some ad463) l0_1.length c0_1] 29 (0,0)) (z4_ BK459.out) hg (Kd.R_ne HO_7.out BK459.out (by decide)));have n1_:=Aside0.mk trivial;have n2_:=Aside0.mk (hb);have n3_:=Aside0.mk (ho);clear BK459;clear BK461;clear HB;clear HO_7;have BK459:=n0_;have BK461:=n1_;have HB:=n2_;have HO467:=n3_;clear n0_ n1_ n2_ n3_;clear ho hb hg hat)))
           go_roundg k2
           case measure=>have:=HJ4.out;have:=HK2.out;omega
           case rel=>exact ⟨(y465),(wrap64 (x21_2+1)),(z1_),H',⟨z13_ HJ4.out HK2.out⟩,⟨z2_ HO467.out⟩,⟨z4_ BK459.out⟩,⟨trivial⟩,⟨z7_ HB.out GE459.out GE461.out⟩⟩
          ·rw [if_neg c25] at H
           exact absurd H (by simp)
        ·rw [if_neg c19] at H
         exact absurd H (by simp)
       ·rw [if_neg c18] at H
        exact absurd H (by simp)
     ·rw [if_neg c15] at H
      have c15b0:decide (x21_2<(l0_1.length:Int))=false:=decide_eq_false c15
      clear c15
      obtain rfl:=Option.some.inj H
      go_wp2
      repeat (go_quiet (fail);try go_wp2)
      go_ret
      exact ⟨_,z10_,z2_ HO_7.out,z7_ HB.out GE459.out GE461.out⟩


/-! ### impl_owners: function 53 -/
def impl_owners.f (k:Nat) (a0_0:Int) (l0_1:List (S57)) (a1:ByteArray) (a2:Int):Option (List Int):=(impl_order.f k a0_0 l0_1 a1).bind fun t546=>(if 0≤(mn a2 (t546.length:Int)) then (if (mn a2 (t546.length:Int))≤(t546.length:Int) then (some (t546.take ((mn a2 (t546.length:Int)):Int).toNat)) else (none)) else (none))
theorem impl_owners.mono:∀ a0 a1 a2 a3 k,LeO (impl_owners.f k a0 a1 a2 a3) (impl_owners.f (k+1) a0 a1 a2 a3):=by
 intro a0 a1 a2 a3 k
 unfold impl_owners.f
 repeat' first
   | (with_reducible exact impl_order.mono _ _ _ _)
   | (with_reducible exact LeO.refl _)
   | (with_reducible exact LeO.none _)
   | (with_reducible refine LeO.ite ?_ ?_)
   | (with_reducible refine LeO.bind ?_ (fun _=>?_))
   | exact impl_order.mono _ _ _ _
   | exact LeO.none _
   | refine LeO.ite ?_ ?_
   | refine LeO.bind ?_ (fun _=>?_)
set_option maxHeartbeats 8000000 in
set_option maxRecDepth 100000 in
theorem impl_owners.calls (k:Nat) (a0_0:Int) (A0_1:Option Addr) (c0_1:Nat) (l0_1:List (S57)) (a1:ByteArray) (a2:Int) (r:List Int) (w:World) (hr0_1:Kd.C k57 w A0_1 l0_1.length l0_1) (hc0_1:l0_1.length≤c0_1) (h:impl_owners.f k a0_0 l0_1 a1 a2=some r) :
  Calls Tryd.prog 53 #[.agg #[.int .i64 a0_0,.slice A0_1 l0_1.length c0_1],.string a1,.int .i64 a2] w fun e w'=>∃ v0_:Value,e = .returned (v0_)∧Kd.R (Kd.int .i64) 2 w' w.heap.size (fun _=>True) v0_ r∧Below w.heap.size w w':=by
 have hu29:=Tryd.underlying29
 have HR0_1:=Aside0.mk hr0_1
 have HC0_1:=Aside0.mk hc0_1
 clear hr0_1 hc0_1
 have HB:=Aside0.mk (Below.refl w.heap.size w)
 have H:((impl_order.f k a0_0 l0_1 a1).bind fun t546=>(if 0≤(mn a2 (t546.length:Int)) then (if (mn a2 (t546.length:Int))≤(t546.length:Int) then (some (t546.take ((mn a2 (t546.length:Int)):Int).toNat)) else (none)) else (none)))=some r:=h
 clear h
 replace H:=Option.bind_eq_some_iff.mp H
 obtain ⟨t546,A40,H⟩:=H
 replace H:(if 0≤(mn a2 (t546.length:Int)) then (if (mn a2 (t546.length:Int))≤(t546.length:Int) then (some (t546.take ((mn a2 (t546.length:Int)):Int).toNat)) else (none)) else (none))=some r:=H
 have A4:=Aside0.mk A40
 clear A40
 obtain ⟨ji5,hji5⟩:∃ j_:Int,(mn a2 (t546.length:Int))=j_:=⟨_,rfl⟩
 replace H:(if 0≤(ji5) then (if (ji5)≤(t546.length:Int) then (some (t546.take ((ji5):Int).toNat)) else (none)) else (none))=some r:=by first | (rw [hji5] at H;exact H) | (simp only [hji5] at H ⊢;exact H)
 (try rw [hji5] at A4)
 have hji5_:(if (t546.length:Int)<a2 then (t546.length:Int) else a2)=ji5:=hji5
 by_cases c6:0≤(ji5)
 ·rw [if_pos c6] at H
  have c6b0:=eq_true c6
  have c6b1:decide (0≤(ji5))=true:=decide_eq_true c6
  clear c6
  by_cases c7:(ji5)≤(t546.length:Int)
  ·rw [if_pos c7] at H
   have c7b0:=eq_true c7
   have c7b1:decide ((ji5)≤(t546.length:Int))=true:=decide_eq_true c7
   clear c7
   obtain ⟨y549,hy549⟩:∃ y_:List Int,y_=(t546.take ((ji5):Int).toNat):=⟨_,rfl⟩
   replace H:(some y549)=some r:=by first | (rw [hy549];with_reducible exact H) | (have H2_:=(Option.bind_some _ _).symm.trans H;rw [hy549];with_reducible exact H2_) | (have H2_:=(Option.bind_some _ _).symm.trans H;with_reducible exact H2_) | with_reducible exact H | (rw [hy549];exact H) | exact H
   have Ny549:=Aside0.mk hy549
   clear hy549
   obtain rfl:=Option.some.inj H
   go_enter Tryd.func53,Tryd.ntmps53
   go_wp2_with (first | ((with_reducible refine gd_ 3 ?_);refine be_ 3 #[.int .i64 a0_0,.slice A0_1 l0_1.length c0_1] 29 ?_;intro gb545 hg w8 hbox hb;refine as4_ (below_step (z3_ HB.out) hb) (hbox) ((z8_ HB.out:w.heap.size≤gb545)) ((z8_ HB.out:w.heap.size≤gb545)) ?_;clear HB;intro HB BK545 GW545 GE545;clear hb hbox hg;have ⟨hcz9_0,hcz9_1,hfz9_0,hfz9_1⟩:=cz2_ BK545.out) | ((with_reducible refine gc_ 50 ?_);refine gl_ (some 10) Tryd.func50 #[.agg #[.int .i64 a0_0,.slice A0_1 l0_1.length c0_1],.string a1] ?_;(with_reducible refine (impl_order.calls k a0_0 _ _ l0_1 a1 t546 _ ?s1 ?s2 A4.out).mono ?_);(case s1=>repeat (first | exact (Kd.C_below HR0_1.out HB.out) | (with_reducible refine Kd.C_alloc ?_ _) | (with_reducible refine Kd.C_drewN ?_ _) | (with_reducible refine Kd.C_drew ?_)));(case s2=>exact HC0_1.out);rintro e w10 ⟨v547,rfl,ho0,hb⟩;refine ⟨_,rfl,?_⟩;refine as3_ (Kd.R_lower ho0 (below_size (z5_ HB.out GE545.out))) (blkB_ BK545.out hb) (below_step (z5_ HB.out GE545.out) hb) ?_;clear BK545 HB;intro HO548 BK545 HB;(try clear hb);(try clear ho0);obtain ⟨Ao11,co11,eo11⟩:=Kd.R_slice HO548.out;subst eo11;have q12:((ji5):Int)≤((t546.length:Int):Int):=of_decide_eq_true (z0_);obtain ⟨i012,hi012,_,hsz12,_⟩:=info_parts info2;have hcut12:=cut_to (P:=Tryd.prog) 41 2 .i64 Tryd.underlying41 hi012 Ao11 t546.length co11 (ji5) (of_decide_eq_true (z0_)) q12 (Kd.R_reads' HO548.out).2.1;have hr12:=Kd.R_take (m:=((ji5):Int).toNat) HO548.out (by omega);have hy12:y549.length=((ji5):Int).toNat:=(by rw [Ny549.out,List.length_take];omega);rw [← Ny549.out] at hr12;rw [← hy12] at hr12 hcut12;clear hy12 hi012 hsz12 HO548;have HO551:=Aside0.mk hr12;clear hr12;replace q12:=eq_true q12))
   go_ret
   exact ⟨_,by first | rfl | (simp [errW_none,errW_some] <;> rfl) | (simp only [← hji5];first | rfl | (simp [errW_none,errW_some] <;> rfl)) | (simp [*,errW_none,errW_some] <;> rfl),z2_ HO551.out,z5_ HB.out GE545.out⟩
  ·rw [if_neg c7] at H
   exact absurd H (by simp)
 ·rw [if_neg c6] at H
  exact absurd H (by simp)


/-! ### impl_Owners: function 29 -/
def impl_Owners.j0:Nat→ByteArray→Int→Bool→Int→List (S57)→Option (List Int)
 | 0,_,_,_,_,_=>none
 | k+1,x1,x2,x15,x553000,x553001=>if x15=true then (some ([]:List Int)) else ((impl_owners.f k x553000 x553001 x1 x2).bind fun t555=>((slices_Clone_int64_int64.f t555).bind fun t558=>(some t558)))
def impl_Owners.f (k:Nat) (a0_0:Int) (l0_1:List (S57)) (a1:ByteArray) (a2:Int):Option (List Int):=(impl_isKeyed.f k a0_0 l0_1 a1).bind fun t553=>(if t553=true then ((impl_isNode.f a2).bind fun t554=>(impl_Owners.j0 k a1 a2 (!t554) a0_0 l0_1)) else (impl_Owners.j0 k a1 a2 true a0_0 l0_1))
theorem impl_Owners.mono_l:∀ k,(∀ y0 y1 y2 y3 y4,LeO (impl_Owners.j0 k y0 y1 y2 y3 y4) (impl_Owners.j0 (k+1) y0 y1 y2 y3 y4))
 | 0=>fun _ _ _ _ _ r h=>by simp [impl_Owners.j0] at h
 | k+1=>by
  have ih0:=impl_Owners.mono_l k
  ·intro y0 y1 y2 y3 y4
   unfold impl_Owners.j0
   repeat' first
   | (with_reducible exact ih0 _ _ _ _ _)
   | (with_reducible exact impl_isKeyed.mono _ _ _ _)
   | (with_reducible exact impl_owners.mono _ _ _ _ _)
   | (with_reducible exact LeO.refl _)
   | (with_reducible exact LeO.none _)
   | (with_reducible refine LeO.ite ?_ ?_)
   | (with_reducible refine LeO.bind ?_ (fun _=>?_))
   | exact ih0 _ _ _ _ _
   | exact impl_isKeyed.mono _ _ _ _
   | exact impl_owners.mono _ _ _ _ _
   | exact LeO.none _
   | refine LeO.ite ?_ ?_
   | refine LeO.bind ?_ (fun _=>?_)
theorem impl_Owners.mono:∀ a0 a1 a2 a3 k,LeO (impl_Owners.f k a0 a1 a2 a3) (impl_Owners.f (k+1) a0 a1 a2 a3):=by
 intro a0 a1 a2 a3 k
 have ih0:=impl_Owners.mono_l k
 unfold impl_Owners.f
 repeat' first
   | (with_reducible exact ih0 _ _ _ _ _)
   | (with_reducible exact impl_isKeyed.mono _ _ _ _)
   | (with_reducible exact impl_owners.mono _ _ _ _ _)
   | (with_reducible exact LeO.refl _)
   | (with_reducible exact LeO.none _)
   | (with_reducible refine LeO.ite ?_ ?_)
   | (with_reducible refine LeO.bind ?_ (fun _=>?_))
   | exact ih0 _ _ _ _ _
   | exact impl_isKeyed.mono _ _ _ _
   | exact impl_owners.mono _ _ _ _ _
   | exact LeO.none _
   | refine LeO.ite ?_ ?_
   | refine LeO.bind ?_ (fun _=>?_)
set_option maxHeartbeats 8000000 in
set_option maxRecDepth 100000 in
theorem impl_Owners.calls (k:Nat) (a0_0:Int) (A0_1:Option Addr) (c0_1:Nat) (l0_1:List (S57)) (a1:ByteArray) (a2:Int) (r:List Int) (w:World) (hr0_1:Kd.C k57 w A0_1 l0_1.length l0_1) (hc0_1:l0_1.length≤c0_1) (h:impl_Owners.f k a0_0 l0_1 a1 a2=some r) :
  Calls Tryd.prog 29 #[.agg #[.int .i64 a0_0,.slice A0_1 l0_1.length c0_1],.string a1,.int .i64 a2] w fun e w'=>∃ v0_:Value,e = .returned (v0_)∧Kd.R (Kd.int .i64) 2 w' w.heap.size (fun _=>True) v0_ r∧Below w.heap.size w w':=by
 have hu29:=Tryd.underlying29
 have HR0_1:=Aside0.mk hr0_1
 have HC0_1:=Aside0.mk hc0_1
 clear hr0_1 hc0_1
 have HB:=Aside0.mk (Below.refl w.heap.size w)
 have H:((impl_isKeyed.f k a0_0 l0_1 a1).bind fun t553=>(if t553=true then ((impl_isNode.f a2).bind fun t554=>(impl_Owners.j0 k a1 a2 (!t554) a0_0 l0_1)) else (impl_Owners.j0 k a1 a2 true a0_0 l0_1)))=some r:=h
 clear h
 have HC4:=Aside0.mk H
 clear H
 go_enter Tryd.func29,Tryd.ntmps29
 go_upto_region 1 with (first | ((with_reducible refine gd_ 3 ?_);refine be_ 3 #[.int .i64 a0_0,.slice A0_1 l0_1.length c0_1] 29 ?_;intro gb552 hg w5 hbox hb;refine as4_ (below_step (z3_ HB.out) hb) (hbox) ((z8_ HB.out:w.heap.size≤gb552)) ((z8_ HB.out:w.heap.size≤gb552)) ?_;clear HB;intro HB BK552 GW552 GE552;clear hb hbox hg))
 (try simp only [Act.put,sa_,s0_,ss_])
 go_cut [15] (fun v15 wc=>∃ (kq:Nat) (x15_3:Bool),v15 = .bool x15_3∧Aside0 (impl_Owners.j0 kq a1 a2 x15_3 a0_0 l0_1=some r)∧Aside0 (kq≤k)∧Aside0 (wc.heap[gb552]? = some (.cells #[.int .i64 a0_0,(.slice A0_1 l0_1.length c0_1)] 29 (0,0)))∧Aside0 (Below w.heap.size w wc))
 case first =>
  have H:=HC4.out
  clear HC4
  replace H:=Option.bind_eq_some_iff.mp H
  obtain ⟨t553,A60,H⟩:=H
  replace H:(if t553=true then ((impl_isNode.f a2).bind fun t554=>(impl_Owners.j0 k a1 a2 (!t554) a0_0 l0_1)) else (impl_Owners.j0 k a1 a2 true a0_0 l0_1))=some r:=H
  have A6:=Aside0.mk A60
  clear A60
  by_cases c7:t553=true
  ·subst c7
   have H1:((impl_isNode.f a2).bind fun t554=>(impl_Owners.j0 k a1 a2 (!t554) a0_0 l0_1))=some r:=by rw [if_pos rfl] at H;exact H
   clear H
   have H:=H1
   clear H1
   replace H:=Option.bind_eq_some_iff.mp H
   obtain ⟨t554,A80,H⟩:=H
   replace H:(impl_Owners.j0 k a1 a2 (!t554) a0_0 l0_1)=some r:=H
   have A8:=Aside0.mk A80
   clear A80
   have H':=Aside0.mk H
   clear H
   have ⟨hcz9_0,hcz9_1,hfz9_0,hfz9_1⟩:=cz2_ BK552.out
   go_wp2_with (first | ((with_reducible refine gc_ 49 ?_);refine gl_ (some 9) Tryd.func49 #[.agg #[.int .i64 a0_0,.slice A0_1 l0_1.length c0_1],.string a1] ?_;(with_reducible refine (impl_isKeyed.calls k a0_0 _ _ l0_1 a1 true _ ?s1 ?s2 A6.out).mono ?_);(case s1=>repeat (first | exact (Kd.C_below HR0_1.out HB.out) | (with_reducible refine Kd.C_alloc ?_ _) | (with_reducible refine Kd.C_drewN ?_ _) | (with_reducible refine Kd.C_drew ?_)));(case s2=>exact HC0_1.out);rintro e w10 ⟨rfl,hb⟩;refine ⟨_,rfl,?_⟩;refine as2_ (blkB_ BK552.out hb) (below_step (z5_ HB.out GE552.out) hb) ?_;clear BK552 HB;intro BK552 HB;(try clear hb)) | (go_at_call 39;(with_reducible refine (impl_isNode.calls a2 t554 _ A8.out).mono ?_);rintro e w' ⟨rfl,⟨nd,rfl⟩⟩))
   go_meet
   case rel=>exact ⟨_,(!t554),(z1_),H',⟨by first | omega | exact Nat.le_refl _⟩,⟨z4_ BK552.out⟩,⟨z5_ HB.out GE552.out⟩⟩
  ·replace c7:=Bool.eq_false_iff.mpr c7
   subst c7
   have H1:(impl_Owners.j0 k a1 a2 true a0_0 l0_1)=some r:=by rw [if_neg (show ¬ (false=true) by decide)] at H;exact H
   clear H
   have H:=H1
   clear H1
   have H':=Aside0.mk H
   clear H
   have ⟨hcz11_0,hcz11_1,hfz11_0,hfz11_1⟩:=cz2_ BK552.out
   go_wp2_with (first | ((with_reducible refine gc_ 49 ?_);refine gl_ (some 9) Tryd.func49 #[.agg #[.int .i64 a0_0,.slice A0_1 l0_1.length c0_1],.string a1] ?_;(with_reducible refine (impl_isKeyed.calls k a0_0 _ _ l0_1 a1 false _ ?s1 ?s2 A6.out).mono ?_);(case s1=>repeat (first | exact (Kd.C_below HR0_1.out HB.out) | (with_reducible refine Kd.C_alloc ?_ _) | (with_reducible refine Kd.C_drewN ?_ _) | (with_reducible refine Kd.C_drew ?_)));(case s2=>exact HC0_1.out);rintro e w12 ⟨rfl,hb⟩;refine ⟨_,rfl,?_⟩;refine as2_ (blkB_ BK552.out hb) (below_step (z5_ HB.out GE552.out) hb) ?_;clear BK552 HB;intro BK552 HB;(try clear hb)))
   go_meet
   case rel=>exact ⟨_,(true),(z1_),H',⟨by first | omega | exact Nat.le_refl _⟩,⟨z4_ BK552.out⟩,⟨z5_ HB.out GE552.out⟩⟩
 case rest =>
  clear HC4
  try clear c2
  try clear p2
  try clear c4
  try clear c7
  try clear hcz11_0
  try clear hcz11_1
  try clear hcz9_0
  try clear hcz9_1
  try clear hfz11_0
  try clear hfz11_1
  try clear hfz9_0
  try clear hfz9_1
  obtain ⟨kq,x15_3,rfl,HA,HJ3,BK552,HB⟩:=hcut
  cases kq with
  | zero=>exact absurd HA.out (by simp [impl_Owners.j0])
  | succ kj3 =>
   have H:=HA.out
   clear HA
   simp only [impl_Owners.j0] at H
   by_cases c13:x15_3=true
   ·subst c13
    have H1:(some ([]:List Int))=some r:=by rw [if_pos rfl] at H;exact H
    clear H
    have H:=H1
    clear H1
    obtain rfl:=Option.some.inj H
    go_wp2
    go_ret
    exact ⟨_,z10_,z31_,z5_ HB.out GE552.out⟩
   ·replace c13:=Bool.eq_false_iff.mpr c13
    subst c13
    have H1:((impl_owners.f kj3 a0_0 l0_1 a1 a2).bind fun t555=>((slices_Clone_int64_int64.f t555).bind fun t558=>(some t558)))=some r:=by rw [if_neg (show ¬ (false=true) by decide)] at H;exact H
    clear H
    have H:=H1
    clear H1
    replace H:=Option.bind_eq_some_iff.mp H
    obtain ⟨t555,A140,H⟩:=H
    replace H:((slices_Clone_int64_int64.f t555).bind fun t558=>(some t558))=some r:=H
    have A14:=Aside0.mk A140
    clear A140
    replace H:=Option.bind_eq_some_iff.mp H
    obtain ⟨t558,A150,H⟩:=H
    replace H:(some t558)=some r:=H
    have A15:=Aside0.mk A150
    clear A150
    obtain rfl:=Option.some.inj H
    have ⟨hcz16_0,hcz16_1,hfz16_0,hfz16_1⟩:=cz2_ BK552.out
    go_wp2_with (first | ((with_reducible refine gc_ 53 ?_);refine gl_ (some 19) Tryd.func53 #[.agg #[.int .i64 a0_0,.slice A0_1 l0_1.length c0_1],.string a1,.int .i64 a2] ?_;(with_reducible refine (impl_owners.calls kj3 a0_0 _ _ l0_1 a1 a2 t555 _ ?s1 ?s2 A14.out).mono ?_);(case s1=>repeat (first | exact (Kd.C_below HR0_1.out HB.out) | (with_reducible refine Kd.C_alloc ?_ _) | (with_reducible refine Kd.C_drewN ?_ _) | (with_reducible refine Kd.C_drew ?_)));(case s2=>exact HC0_1.out);rintro e w17 ⟨v556,rfl,ho0,hb⟩;refine ⟨_,rfl,?_⟩;refine as3_ (Kd.R_lower ho0 (below_size (z5_ HB.out GE552.out))) (blkB_ BK552.out hb) (below_step (z5_ HB.out GE552.out) hb) ?_;clear BK552 HB;intro HO557 BK552 HB;(try clear hb);(try clear ho0);obtain ⟨Ao18,co18,eo18⟩:=Kd.R_slice HO557.out;subst eo18) | ((with_reducible refine gc_ 52 ?_);refine gl_ (some 20) Tryd.func52 #[.slice Ao18 t555.length co18] ?_;(with_reducible refine (slices_Clone_int64_int64.calls _ _ t555 t558 _ ?s1 ?s2 A15.out).mono ?_);(case s1=>repeat (first | exact (Kd.R_reads' HO557.out).2.2 | (with_reducible refine Kd.C_alloc ?_ _) | (with_reducible refine Kd.C_drewN ?_ _) | (with_reducible refine Kd.C_drew ?_)));(case s2=>exact (Kd.R_reads' HO557.out).2.1);rintro e w19 ⟨v559,rfl,ho0,hb⟩;refine ⟨_,rfl,?_⟩;refine as4_ (Kd.R_elder' (z2_ HO557.out) (Kd.R_base ho0) hb) (Kd.R_lower (Kd.R_new' ho0 (Kd.R_lt (z2_ HO557.out))) (below_size (z5_ HB.out GE552.out))) (blkB_ BK552.out hb) (below_step (z5_ HB.out GE552.out) hb) ?_;clear HO557 BK552 HB;intro HO557 HO560 BK552 HB;(try clear hb);(try clear ho0)))
    go_ret
    exact ⟨_,z10_,z32_ HO560.out,z5_ HB.out GE552.out⟩


/-! ### laws_FnExactOwners: function 7 -/
def laws_FnExactOwners.j0:Nat→ByteArray→Int→List Int→List Int→Bool→Int→List (S75)→Option (Bool)
 | 0,_,_,_,_,_,_,_=>none
 | k+1,x1,x2,x8,x10,x53,x562000,x562001=>if x53=true then (none) else ((laws_markInt64S.f k x10 1).bind fun bt587=>((laws_heldInt64S.f k bt587.2 1).bind fun t589=>(if t589<0 then (none) else (if t589=bt587.1 then ((laws_toRing.f k x562000 x562001).bind fun bt590=>((impl_Owners.f k bt590.1 bt590.2 x1 x2).bind fun t594=>((laws_eqInt64S.f k t594 x8).bind fun t597=>(if t597=true then ((laws_heldInt64S.f k bt587.2 1).bind fun t598=>(if t598<0 then (none) else (if t598=bt587.1 then (some true) else (none)))) else (none))))) else (none)))))
def laws_FnExactOwners.f (k:Nat) (a0_0:Int) (l0_1:List (S75)) (a1:ByteArray) (a2:Int):Option (Bool):=if (a1.size:Int)>1048576 then (some true) else ((laws_szRing.f a0_0 l0_1 1048576).bind fun t562=>(if t562<0 then (some true) else ((laws_toRing.f k a0_0 l0_1).bind fun bt563=>((spec_Owners.f k bt563.1 bt563.2 a1 a2).bind fun t567=>((laws_toRing.f k a0_0 l0_1).bind fun bt570=>((impl_Owners.f k bt570.1 bt570.2 a1 a2).bind fun t575=>((laws_eqInt64S.f k t575 t567).bind fun t578=>(if t578=true then ((laws_toRing.f k a0_0 l0_1).bind fun bt579=>((laws_eqRing.f k bt570.1 bt570.2 bt579.1 bt579.2).bind fun t583=>(if t583=true then ((laws_markRing.f k bt570.1 bt570.2 1).bind fun bt584=>(if bt584.1<0 then (laws_FnExactOwners.j0 k a1 a2 t567 t575 true a0_0 l0_1) else ((laws_eqInt64S.f k t575 t567).bind fun t586=>(laws_FnExactOwners.j0 k a1 a2 t567 t575 (!t586) a0_0 l0_1)))) else (none)))) else (none)))))))))
theorem laws_FnExactOwners.mono_l:∀ k,(∀ y0 y1 y2 y3 y4 y5 y6,LeO (laws_FnExactOwners.j0 k y0 y1 y2 y3 y4 y5 y6) (laws_FnExactOwners.j0 (k+1) y0 y1 y2 y3 y4 y5 y6))
 | 0=>fun _ _ _ _ _ _ _ r h=>by simp [laws_FnExactOwners.j0] at h
 | k+1=>by
  have ih0:=laws_FnExactOwners.mono_l k
  ·intro y0 y1 y2 y3 y4 y5 y6
   unfold laws_FnExactOwners.j0
   repeat' first
   | (with_reducible exact ih0 _ _ _ _ _ _ _)
   | (with_reducible exact impl_Owners.mono _ _ _ _ _)
   | (with_reducible exact laws_eqInt64S.mono _ _ _)
   | (with_reducible exact laws_eqRing.mono _ _ _ _ _)
   | (with_reducible exact laws_heldInt64S.mono _ _ _)
   | (with_reducible exact laws_markInt64S.mono _ _ _)
   | (with_reducible exact laws_markRing.mono _ _ _ _)
   | (with_reducible exact laws_toRing.mono _ _ _)
   | (with_reducible exact spec_Owners.mono _ _ _ _ _)
   | (with_reducible exact LeO.refl _)
   | (with_reducible exact LeO.none _)
   | (with_reducible refine LeO.ite ?_ ?_)
   | (with_reducible refine LeO.bind ?_ (fun _=>?_))
   | exact ih0 _ _ _ _ _ _ _
   | exact impl_Owners.mono _ _ _ _ _
   | exact laws_eqInt64S.mono _ _ _
   | exact laws_eqRing.mono _ _ _ _ _
   | exact laws_heldInt64S.mono _ _ _
   | exact laws_markInt64S.mono _ _ _
   | exact laws_markRing.mono _ _ _ _
   | exact laws_toRing.mono _ _ _
   | exact spec_Owners.mono _ _ _ _ _
   | exact LeO.none _
   | refine LeO.ite ?_ ?_
   | refine LeO.bind ?_ (fun _=>?_)
theorem laws_FnExactOwners.mono:∀ a0 a1 a2 a3 k,LeO (laws_FnExactOwners.f k a0 a1 a2 a3) (laws_FnExactOwners.f (k+1) a0 a1 a2 a3):=by
 intro a0 a1 a2 a3 k
 have ih0:=laws_FnExactOwners.mono_l k
 unfold laws_FnExactOwners.f
 repeat' first
   | (with_reducible exact ih0 _ _ _ _ _ _ _)
   | (with_reducible exact impl_Owners.mono _ _ _ _ _)
   | (with_reducible exact laws_eqInt64S.mono _ _ _)
   | (with_reducible exact laws_eqRing.mono _ _ _ _ _)
   | (with_reducible exact laws_heldInt64S.mono _ _ _)
   | (with_reducible exact laws_markInt64S.mono _ _ _)
   | (with_reducible exact laws_markRing.mono _ _ _ _)
   | (with_reducible exact laws_toRing.mono _ _ _)
   | (with_reducible exact spec_Owners.mono _ _ _ _ _)
   | (with_reducible exact LeO.refl _)
   | (with_reducible exact LeO.none _)
   | (with_reducible refine LeO.ite ?_ ?_)
   | (with_reducible refine LeO.bind ?_ (fun _=>?_))
   | exact ih0 _ _ _ _ _ _ _
   | exact impl_Owners.mono _ _ _ _ _
   | exact laws_eqInt64S.mono _ _ _
   | exact laws_eqRing.mono _ _ _ _ _
   | exact laws_heldInt64S.mono _ _ _
   | exact laws_markInt64S.mono _ _ _
   | exact laws_markRing.mono _ _ _ _
   | exact laws_toRing.mono _ _ _
   | exact spec_Owners.mono _ _ _ _ _
   | exact LeO.none _
   | refine LeO.ite ?_ ?_
   | refine LeO.bind ?_ (fun _=>?_)
set_option maxHeartbeats 8000000 in
set_option maxRecDepth 100000 in
theorem laws_FnExactOwners.calls (k:Nat) (a0_0:Int) (A0_1:Option Addr) (c0_1:Nat) (l0_1:List (S75)) (a1:ByteArray) (a2:Int) (r:Bool) (w:World) (hr0_1:Kd.C k75 w A0_1 l0_1.length l0_1) (hc0_1:l0_1.length≤c0_1) (h:laws_FnExactOwners.f k a0_0 l0_1 a1 a2=some r) :
  Calls Tryd.prog 7 #[.agg #[.int .i64 a0_0,.slice A0_1 l0_1.length c0_1],.string a1,.int .i64 a2] w fun e w'=>e = .returned (.bool r)∧Below w.heap.size w w':=by
 have hu24:=Tryd.underlying24
 have hu29:=Tryd.underlying29
 have HR0_1:=Aside0.mk hr0_1
 have HC0_1:=Aside0.mk hc0_1
 clear hr0_1 hc0_1
 have HB:=Aside0.mk (Below.refl w.heap.size w)
 have H:(if (a1.size:Int)>1048576 then (some true) else ((laws_szRing.f a0_0 l0_1 1048576).bind fun t562=>(if t562<0 then (some true) else ((laws_toRing.f k a0_0 l0_1).bind fun bt563=>((spec_Owners.f k bt563.1 bt563.2 a1 a2).bind fun t567=>((laws_toRing.f k a0_0 l0_1).bind fun bt570=>((impl_Owners.f k bt570.1 bt570.2 a1 a2).bind fun t575=>((laws_eqInt64S.f k t575 t567).bind fun t578=>(if t578=true then ((laws_toRing.f k a0_0 l0_1).bind fun bt579=>((laws_eqRing.f k bt570.1 bt570.2 bt579.1 bt579.2).bind fun t583=>(if t583=true then ((laws_markRing.f k bt570.1 bt570.2 1).bind fun bt584=>(if bt584.1<0 then (laws_FnExactOwners.j0 k a1 a2 t567 t575 true a0_0 l0_1) else ((laws_eqInt64S.f k t575 t567).bind fun t586=>(laws_FnExactOwners.j0 k a1 a2 t567 t575 (!t586) a0_0 l0_1)))) else (none)))) else (none))))))))))=some r:=h
 clear h
 by_cases c4:(a1.size:Int)>1048576
 ·rw [if_pos c4] at H
  have c4b0:decide (1048576<(a1.size:Int))=true:=decide_eq_true c4
  have c4b1:decide (1048576<a1.size)=true:=decide_eq_true (by omega)
  clear c4
  obtain rfl:=Option.some.inj H
  go_enter Tryd.func7,Tryd.ntmps7
  go_wp2_with (first | ((with_reducible refine gd_ 3 ?_);refine be_ 3 #[.int .i64 a0_0,.slice A0_1 l0_1.length c0_1] 24 ?_;intro gb561 hg w5 hbox hb;refine as4_ (below_step (z3_ HB.out) hb) (hbox) ((z8_ HB.out:w.heap.size≤gb561)) ((z8_ HB.out:w.heap.size≤gb561)) ?_;clear HB;intro HB BK561 GW561 GE561;clear hb hbox hg))
  go_ret
  exact ⟨z10_,z5_ HB.out GE561.out⟩
 ·rw [if_neg c4] at H
  have c4b0:decide (1048576<(a1.size:Int))=false:=decide_eq_false c4
  have c4b1:decide (1048576<a1.size)=false:=decide_eq_false (by omega)
  clear c4
  replace H:=Option.bind_eq_some_iff.mp H
  obtain ⟨t562,A60,H⟩:=H
  replace H:(if t562<0 then (some true) else ((laws_toRing.f k a0_0 l0_1).bind fun bt563=>((spec_Owners.f k bt563.1 bt563.2 a1 a2).bind fun t567=>((laws_toRing.f k a0_0 l0_1).bind fun bt570=>((impl_Owners.f k bt570.1 bt570.2 a1 a2).bind fun t575=>((laws_eqInt64S.f k t575 t567).bind fun t578=>(if t578=true then ((laws_toRing.f k a0_0 l0_1).bind fun bt579=>((laws_eqRing.f k bt570.1 bt570.2 bt579.1 bt579.2).bind fun t583=>(if t583=true then ((laws_markRing.f k bt570.1 bt570.2 1).bind fun bt584=>(if bt584.1<0 then (laws_FnExactOwners.j0 k a1 a2 t567 t575 true a0_0 l0_1) else ((laws_eqInt64S.f k t575 t567).bind fun t586=>(laws_FnExactOwners.j0 k a1 a2 t567 t575 (!t586) a0_0 l0_1)))) else (none)))) else (none))))))))=some r:=H
  have A6:=Aside0.mk A60
  clear A60
  by_cases c7:t562<0
  ·rw [if_pos c7] at H
   have c7b0:decide (t562<0)=true:=decide_eq_true c7
   clear c7
   obtain rfl:=Option.some.inj H
   go_enter Tryd.func7,Tryd.ntmps7
   go_wp2_with (first | ((with_reducible refine gd_ 3 ?_);refine be_ 3 #[.int .i64 a0_0,.slice A0_1 l0_1.length c0_1] 24 ?_;intro gb561 hg w8 hbox hb;refine as4_ (below_step (z3_ HB.out) hb) (hbox) ((z8_ HB.out:w.heap.size≤gb561)) ((z8_ HB.out:w.heap.size≤gb561)) ?_;clear HB;intro HB BK561 GW561 GE561;clear hb hbox hg;have ⟨hcz9_0,hcz9_1,hfz9_0,hfz9_1⟩:=cz2_ BK561.out) | ((with_reducible refine gc_ 10 ?_);refine gl_ (some 20) Tryd.func10 #[.agg #[.int .i64 a0_0,.slice A0_1 l0_1.length c0_1],.int .i64 1048576] ?_;(with_reducible refine (laws_szRing.calls a0_0 _ _ l0_1 1048576 t562 _ ?s1 ?s2 A6.out).mono ?_);(case s1=>repeat (first | exact (Kd.C_below HR0_1.out HB.out) | (with_reducible refine Kd.C_alloc ?_ _) | (with_reducible refine Kd.C_drewN ?_ _) | (with_reducible refine Kd.C_drew ?_)));(case s2=>exact HC0_1.out);rintro e w10 ⟨rfl,hb⟩;refine ⟨_,rfl,?_⟩;refine as2_ (blkB_ BK561.out hb) (below_step (z5_ HB.out GE561.out) hb) ?_;clear BK561 HB;intro BK561 HB;(try clear hb)))
   go_ret
   exact ⟨z10_,z5_ HB.out GE561.out⟩
  ·rw [if_neg c7] at H
   have c7b0:decide (t562<0)=false:=decide_eq_false c7
   clear c7
   replace H:=Option.bind_eq_some_iff.mp H
   obtain ⟨⟨t563,t564⟩,A110,H⟩:=H
   replace H:((spec_Owners.f k t563 t564 a1 a2).bind fun t567=>((laws_toRing.f k a0_0 l0_1).bind fun bt570=>((impl_Owners.f k bt570.1 bt570.2 a1 a2).bind fun t575=>((laws_eqInt64S.f k t575 t567).bind fun t578=>(if t578=true then ((laws_toRing.f k a0_0 l0_1).bind fun bt579=>((laws_eqRing.f k bt570.1 bt570.2 bt579.1 bt579.2).bind fun t583=>(if t583=true then ((laws_markRing.f k bt570.1 bt570.2 1).bind fun bt584=>(if bt584.1<0 then (laws_FnExactOwners.j0 k a1 a2 t567 t575 true a0_0 l0_1) else ((laws_eqInt64S.f k t575 t567).bind fun t586=>(laws_FnExactOwners.j0 k a1 a2 t567 t575 (!t586) a0_0 l0_1)))) else (none)))) else (none))))))=some r:=H
   have A11:=Aside0.mk A110
   clear A110
   replace H:=Option.bind_eq_some_iff.mp H
   obtain ⟨t567,A120,H⟩:=H
   replace H:((laws_toRing.f k a0_0 l0_1).bind fun bt570=>((impl_Owners.f k bt570.1 bt570.2 a1 a2).bind fun t575=>((laws_eqInt64S.f k t575 t567).bind fun t578=>(if t578=true then ((laws_toRing.f k a0_0 l0_1).bind fun bt579=>((laws_eqRing.f k bt570.1 bt570.2 bt579.1 bt579.2).bind fun t583=>(if t583=true then ((laws_markRing.f k bt570.1 bt570.2 1).bind fun bt584=>(if bt584.1<0 then (laws_FnExactOwners.j0 k a1 a2 t567 t575 true a0_0 l0_1) else ((laws_eqInt64S.f k t575 t567).bind fun t586=>(laws_FnExactOwners.j0 k a1 a2 t567 t575 (!t586) a0_0 l0_1)))) else (none)))) else (none)))))=some r:=H
   have A12:=Aside0.mk A120
   clear A120
   replace H:=Option.bind_eq_some_iff.mp H
   obtain ⟨⟨t570,t571⟩,A130,H⟩:=H
   replace H:((impl_Owners.f k t570 t571 a1 a2).bind fun t575=>((laws_eqInt64S.f k t575 t567).bind fun t578=>(if t578=true then ((laws_toRing.f k a0_0 l0_1).bind fun bt579=>((laws_eqRing.f k t570 t571 bt579.1 bt579.2).bind fun t583=>(if t583=true then ((laws_markRing.f k t570 t571 1).bind fun bt584=>(if bt584.1<0 then (laws_FnExactOwners.j0 k a1 a2 t567 t575 true a0_0 l0_1) else ((laws_eqInt64S.f k t575 t567).bind fun t586=>(laws_FnExactOwners.j0 k a1 a2 t567 t575 (!t586) a0_0 l0_1)))) else (none)))) else (none))))=some r:=H
   have A13:=Aside0.mk A130
   clear A130
   replace H:=Option.bind_eq_some_iff.mp H
   obtain ⟨t575,A140,H⟩:=H
   replace H:((laws_eqInt64S.f k t575 t567).bind fun t578=>(if t578=true then ((laws_toRing.f k a0_0 l0_1).bind fun bt579=>((laws_eqRing.f k t570 t571 bt579.1 bt579.2).bind fun t583=>(if t583=true then ((laws_markRing.f k t570 t571 1).bind fun bt584=>(if bt584.1<0 then (laws_FnExactOwners.j0 k a1 a2 t567 t575 true a0_0 l0_1) else ((laws_eqInt64S.f k t575 t567).bind fun t586=>(laws_FnExactOwners.j0 k a1 a2 t567 t575 (!t586) a0_0 l0_1)))) else (none)))) else (none)))=some r:=H
   have A14:=Aside0.mk A140
   clear A140
   replace H:=Option.bind_eq_some_iff.mp H
   obtain ⟨t578,A150,H⟩:=H
   replace H:(if t578=true then ((laws_toRing.f k a0_0 l0_1).bind fun bt579=>((laws_eqRing.f k t570 t571 bt579.1 bt579.2).bind fun t583=>(if t583=true then ((laws_markRing.f k t570 t571 1).bind fun bt584=>(if bt584.1<0 then (laws_FnExactOwners.j0 k a1 a2 t567 t575 true a0_0 l0_1) else ((laws_eqInt64S.f k t575 t567).bind fun t586=>(laws_FnExactOwners.j0 k a1 a2 t567 t575 (!t586) a0_0 l0_1)))) else (none)))) else (none))=some r:=H
   have A15:=Aside0.mk A150
   clear A150
   by_cases c16:t578=true
   ·subst c16
    have H1:((laws_toRing.f k a0_0 l0_1).bind fun bt579=>((laws_eqRing.f k t570 t571 bt579.1 bt579.2).bind fun t583=>(if t583=true then ((laws_markRing.f k t570 t571 1).bind fun bt584=>(if bt584.1<0 then (laws_FnExactOwners.j0 k a1 a2 t567 t575 true a0_0 l0_1) else ((laws_eqInt64S.f k t575 t567).bind fun t586=>(laws_FnExactOwners.j0 k a1 a2 t567 t575 (!t586) a0_0 l0_1)))) else (none))))=some r:=by rw [if_pos rfl] at H;exact H
    clear H
    have H:=H1
    clear H1
    replace H:=Option.bind_eq_some_iff.mp H
    obtain ⟨⟨t579,t580⟩,A170,H⟩:=H
    replace H:((laws_eqRing.f k t570 t571 t579 t580).bind fun t583=>(if t583=true then ((laws_markRing.f k t570 t571 1).bind fun bt584=>(if bt584.1<0 then (laws_FnExactOwners.j0 k a1 a2 t567 t575 true a0_0 l0_1) else ((laws_eqInt64S.f k t575 t567).bind fun t586=>(laws_FnExactOwners.j0 k a1 a2 t567 t575 (!t586) a0_0 l0_1)))) else (none)))=some r:=H
    have A17:=Aside0.mk A170
    clear A170
    replace H:=Option.bind_eq_some_iff.mp H
    obtain ⟨t583,A180,H⟩:=H
    replace H:(if t583=true then ((laws_markRing.f k t570 t571 1).bind fun bt584=>(if bt584.1<0 then (laws_FnExactOwners.j0 k a1 a2 t567 t575 true a0_0 l0_1) else ((laws_eqInt64S.f k t575 t567).bind fun t586=>(laws_FnExactOwners.j0 k a1 a2 t567 t575 (!t586) a0_0 l0_1)))) else (none))=some r:=H
    have A18:=Aside0.mk A180
    clear A180
    by_cases c19:t583=true
    ·subst c19
     have H1:((laws_markRing.f k t570 t571 1).bind fun bt584=>(if bt584.1<0 then (laws_FnExactOwners.j0 k a1 a2 t567 t575 true a0_0 l0_1) else ((laws_eqInt64S.f k t575 t567).bind fun t586=>(laws_FnExactOwners.j0 k a1 a2 t567 t575 (!t586) a0_0 l0_1))))=some r:=by rw [if_pos rfl] at H;exact H
     clear H
     have H:=H1
     clear H1
     replace H:=Option.bind_eq_some_iff.mp H
     obtain ⟨⟨t584,t585⟩,A200,H⟩:=H
     replace H:(if t584<0 then (laws_FnExactOwners.j0 k a1 a2 t567 t575 true a0_0 l0_1) else ((laws_eqInt64S.f k t575 t567).bind fun t586=>(laws_FnExactOwners.j0 k a1 a2 t567 t575 (!t586) a0_0 l0_1)))=some r:=H
     have A20:=Aside0.mk A200
     clear A200
     have HC21:=Aside0.mk H
     clear H
     go_enter Tryd.func7,Tryd.ntmps7
     try go_wp2_with (first | ((with_reducible refine gd_ 3 ?_);refine be_ 3 #[.int .i64 a0_0,.slice A0_1 l0_1.length c0_1] 24 ?_;intro gb561 hg w22 hbox hb;refine as4_ (below_step (z3_ HB.out) hb) (hbox) ((z8_ HB.out:w.heap.size≤gb561)) ((z8_ HB.out:w.heap.size≤gb561)) ?_;clear HB;intro HB BK561 GW561 GE561;clear hb hbox hg;have ⟨hcz23_0,hcz23_1,hfz23_0,hfz23_1⟩:=cz2_ BK561.out) | ((with_reducible refine gc_ 10 ?_);refine gl_ (some 20) Tryd.func10 #[.agg #[.int .i64 a0_0,.slice A0_1 l0_1.length c0_1],.int .i64 1048576] ?_;(with_reducible refine (laws_szRing.calls a0_0 _ _ l0_1 1048576 t562 _ ?s1 ?s2 A6.out).mono ?_);(case s1=>repeat (first | exact (Kd.C_below HR0_1.out HB.out) | (with_reducible refine Kd.C_alloc ?_ _) | (with_reducible refine Kd.C_drewN ?_ _) | (with_reducible refine Kd.C_drew ?_)));(case s2=>exact HC0_1.out);rintro e w24 ⟨rfl,hb⟩;refine ⟨_,rfl,?_⟩;refine as2_ (blkB_ BK561.out hb) (below_step (z5_ HB.out GE561.out) hb) ?_;clear BK561 HB;intro BK561 HB;(try clear hb);have ⟨hcz25_0,hcz25_1,hfz25_0,hfz25_1⟩:=cz2_ BK561.out) | ((with_reducible refine gc_ 12 ?_);refine gl_ (some 24) Tryd.func12 #[.agg #[.int .i64 a0_0,.slice A0_1 l0_1.length c0_1]] ?_;(with_reducible refine (laws_toRing.calls k a0_0 _ _ l0_1 t563 t564 _ ?s1 ?s2 A11.out).mono ?_);(case s1=>repeat (first | exact (Kd.C_below HR0_1.out HB.out) | (with_reducible refine Kd.C_alloc ?_ _) | (with_reducible refine Kd.C_drewN ?_ _) | (with_reducible refine Kd.C_drew ?_)));(case s2=>exact HC0_1.out);rintro e w26 ⟨v565,rfl,ho0,hb⟩;refine ⟨_,rfl,?_⟩;refine as3_ (Kd.R_lower ho0 (below_size (z5_ HB.out GE561.out))) (blkB_ BK561.out hb) (below_step (z5_ HB.out GE561.out) hb) ?_;clear BK561 HB;intro HO566 BK561 HB;(try clear hb);(try clear ho0);obtain ⟨Ao27,co27,eo27⟩:=Kd.R_slice HO566.out;subst eo27) | ((with_reducible refine gc_ 28 ?_);refine gl_ (some 27) Tryd.func28 #[.agg #[.int .i64 t563,.slice Ao27 t564.length co27],.string a1,.int .i64 a2] ?_;(with_reducible refine (spec_Owners.calls k t563 _ _ t564 a1 a2 t567 _ ?s1 ?s2 A12.out).mono ?_);(case s1=>repeat (first | exact (Kd.R_reads' HO566.out).2.2 | (with_reducible refine Kd.C_alloc ?_ _) | (with_reducible refine Kd.C_drewN ?_ _) | (with_reducible refine Kd.C_drew ?_)));(case s2=>exact (Kd.R_reads' HO566.out).2.1);rintro e w28 ⟨v568,rfl,ho0,hb⟩;refine ⟨_,rfl,?_⟩;refine as4_ (Kd.R_below (z2_ HO566.out) hb) (Kd.R_lower ho0 (below_size (z5_ HB.out GE561.out))) (blkB_ BK561.out hb) (below_step (z5_ HB.out GE561.out) hb) ?_;clear HO566 BK561 HB;intro HO566 HO569 BK561 HB;(try clear hb);(try clear ho0);have ⟨hcz29_0,hcz29_1,hfz29_0,hfz29_1⟩:=cz2_ BK561.out) | ((with_reducible refine gc_ 12 ?_);refine gl_ (some 29) Tryd.func12 #[.agg #[.int .i64 a0_0,.slice A0_1 l0_1.length c0_1]] ?_;(with_reducible refine (laws_toRing.calls k a0_0 _ _ l0_1 t570 t571 _ ?s1 ?s2 A13.out).mono ?_);(case s1=>repeat (first | exact (Kd.C_below HR0_1.out HB.out) | (with_reducible refine Kd.C_alloc ?_ _) | (with_reducible refine Kd.C_drewN ?_ _) | (with_reducible refine Kd.C_drew ?_)));(case s2=>exact HC0_1.out);rintro e w30 ⟨v572,rfl,ho0,hb⟩;refine ⟨_,rfl,?_⟩;refine as5_ (Kd.R_elder' (z2_ HO566.out) (Kd.R_base ho0) hb) (Kd.R_below (z2_ HO569.out) hb) (Kd.R_lower (Kd.R_new' ho0 (Kd.R_lt (z2_ HO566.out))) (below_size (z5_ HB.out GE561.out))) (blkB_ BK561.out hb) (below_step (z5_ HB.out GE561.out) hb) ?_;clear HO566 HO569 BK561 HB;intro HO566 HO569 HO573 BK561 HB;(try clear hb);(try clear ho0)) | ((with_reducible refine gd_ 9 ?_);refine be_ 9 #[.int .i64 0,.slice none 0 0] 29 ?_;intro gb574 hg w31 hbox hb;refine as10_ (Kd.R_below (z2_ HO566.out) hb) (Kd.R_below (z2_ HO569.out) hb) (Kd.R_below (z2_ HO573.out) hb) (blkB_ BK561.out hb) (below_step (z5_ HB.out GE561.out) hb) (hbox) ((z12_ HB.out GE561.out:w.heap.size≤gb574)) ((z12_ HB.out GE561.out:w.heap.size≤gb574)) (neL_ BK561.out hg) (neG_ BK561.out hg) ?_;clear HO566 HO569 HO573 BK561 HB;intro HO566 HO569 HO573 BK561 HB BK574 GW574 GE574 NB561_574 NB574_561;clear hb hbox hg;have hnb32:=NB574_561.out;have hnc32:=NB561_574.out;have ⟨hcz33_0,hcz33_1,hfz33_0,hfz33_1⟩:=cz2_ BK574.out;obtain ⟨Ao34,co34,eo34⟩:=Kd.R_slice HO573.out;subst eo34) | ((with_reducible refine gc_ 29 ?_);refine gl_ (some 33) Tryd.func29 #[.agg #[.int .i64 t570,.slice Ao34 t571.length co34],.string a1,.int .i64 a2] ?_;(with_reducible refine (impl_Owners.calls k t570 _ _ t571 a1 a2 t575 _ ?s1 ?s2 A14.out).mono ?_);(case s1=>refine (Kd.R_reads' (e:=57) (base:=w.heap.size) (ok:=fun k_=>(True∧some k_≠(.slice Ao27 t564.length co27:Value).ownBlock)) (n:=t571.length) (c:=co34) ?_).2.2;exact (z29_ HO573.out BK574.out));(case s2=>exact (Kd.R_reads' HO573.out).2.1);rintro e w35 ⟨v576,rfl,ho0,hb⟩;refine ⟨_,rfl,?_⟩;refine as7_ (Kd.R_below (z29_ HO566.out BK574.out) hb) (Kd.R_elder' (z29_ HO569.out BK574.out) (Kd.R_base ho0) hb) (Kd.R_below (z29_ HO573.out BK574.out) hb) (Kd.R_lower (Kd.R_new' ho0 (Kd.R_lt (z29_ HO569.out BK574.out))) (below_size (z7_ HB.out GE561.out GE574.out))) (blk_below (g:=gb561) (o:=.cells #[.int .i64 a0_0,.slice A0_1 l0_1.length c0_1] 24 (0,0)) (z24_ NB561_574.out BK561.out) hb) (blk_below (g:=gb574) (o:=.cells #[.int .i64 t570,.slice Ao34 t571.length co34] 29 (0,0)) (z23_ BK574.out) hb) (below_step (z7_ HB.out GE561.out GE574.out) hb) ?_;clear HO566 HO569 HO573 BK561 BK574 HB;intro HO566 HO569 HO573 HO577 BK561 BK574 HB;(try clear hb);(try clear hk);(try clear ho0);obtain ⟨Ao36,co36,eo36⟩:=Kd.R_slice HO577.out;subst eo36;obtain ⟨Ao37,co37,eo37⟩:=Kd.R_slice HO569.out;subst eo37) | ((with_reducible refine gc_ 25 ?_);refine gl_ (some 36) Tryd.func25 #[.slice Ao36 t575.length co36,.slice Ao37 t567.length co37] ?_;(with_reducible refine (laws_eqInt64S.calls k _ _ t575 _ _ t567 true _ ?s1 ?s2 ?s3 ?s4 A15.out).mono ?_);(case s1=>repeat (first | exact (Kd.R_reads' HO577.out).2.2 | (with_reducible refine Kd.C_alloc ?_ _) | (with_reducible refine Kd.C_drewN ?_ _) | (with_reducible refine Kd.C_drew ?_)));(case s2=>exact (Kd.R_reads' HO577.out).2.1);(case s3=>repeat (first | exact (Kd.R_reads' HO569.out).2.2 | (with_reducible refine Kd.C_alloc ?_ _) | (with_reducible refine Kd.C_drewN ?_ _) | (with_reducible refine Kd.C_drew ?_)));(case s4=>exact (Kd.R_reads' HO569.out).2.1);rintro e w' ⟨rfl,⟨nd,rfl⟩⟩;refine ⟨_,rfl,?_⟩))
     (try (rw [drewN_self w35];generalize hq_:World.drewN w35 _=w35;have n0_:Aside0 (Kd.R k57 57 w35 w.heap.size (fun k_=>True∧some k_≠(.slice Ao34 t571.length co34:Value).ownBlock) (.slice Ao27 t564.length co27) t564):=⟨z36_ HO566.out⟩;have n1_:Aside0 (Kd.R (Kd.int .i64) 2 w35 w.heap.size (fun k_=>True∧some k_≠(.slice Ao36 t575.length co36:Value).ownBlock) (.slice Ao37 t567.length co37) t567):=⟨z36_ HO569.out⟩;have n2_:Aside0 (Kd.R k57 57 w35 w.heap.size (fun k_=>True∧some k_≠(.slice Ao27 t564.length co27:Value).ownBlock) (.slice Ao34 t571.length co34) t571):=⟨z36_ HO573.out⟩;have n3_:Aside0 (Kd.R (Kd.int .i64) 2 w35 w.heap.size (fun k_=>True∧some k_≠(.slice Ao37 t567.length co37:Value).ownBlock) (.slice Ao36 t575.length co36) t575):=⟨z36_ HO577.out⟩;have n4_:Aside0 (w35.heap[gb561]? = some (.cells #[.int .i64 a0_0,.slice A0_1 l0_1.length c0_1] 24 (0,0))):=⟨z35_ BK561.out⟩;have n5_:Aside0 (w35.heap[gb574]? = some (.cells #[.int .i64 t570,.slice Ao34 t571.length co34] 29 (0,0))):=⟨z35_ BK574.out⟩;have n6_:Aside0 (Below w.heap.size w w35):=⟨by rw [← hq_];exact (by repeat (first | (with_reducible first | exact HB.out | apply below_alloc | apply pw_below_drewN | apply below_drew1 | refine below_set ?_ GE561.out | refine below_set ?_ GE574.out) | exact HB.out))⟩;clear HO566 HO569 HO573 HO577 BK561 BK574 HB hq_;have HO566:=n0_;have HO569:=n1_;have HO573:=n2_;have HO577:=n3_;have BK561:=n4_;have BK574:=n5_;have HB:=n6_;clear n0_ n1_ n2_ n3_ n4_ n5_ n6_))
     refine as7_ (Kd.R_drew HO566.out) (Kd.R_drew HO569.out) (Kd.R_drew HO573.out) (Kd.R_drew HO577.out) (blk_drew BK561.out) (blk_drew BK574.out) (below_drew1 HB.out) ?_
     clear HO566 HO569 HO573 HO577 BK561 BK574 HB
     intro HO566 HO569 HO573 HO577 BK561 BK574 HB
     refine start_ (n:=5) (S:=fun w'=>w'.cell? ⟨gb574,0,none⟩=some (.int .i64 t570)∧w'.cell? ⟨gb574,1,none⟩=some (.slice Ao34 t571.length co34)∧w'.cell? ⟨gb561,0,none⟩=some (.int .i64 a0_0)∧w'.cell? ⟨gb561,1,none⟩=some (.slice A0_1 l0_1.length c0_1)) (ds:=[]) #[O,O,O,O,O] (by kernel_rfl) rfl rfl (cj2_ BK574.out (cc2_ BK561.out)) (fun hHeld=>?_)
     generalize w35.drew=w38 at HO566 HO569 HO573 HO577 BK561 BK574 HB hHeld ⊢
     refine take_ (i:=0) (N:=some 38) (v:=?_) (a':=?_) #[I,O,O,O,O] rfl rfl (by kernel_rfl) (fun _ _ _ h=>h) (Or.inl ⟨by rfl,?_⟩) hHeld ?_ ?_
     rotate_left
     ·rintro w' ⟨s0,s1,s2,s3⟩
      go_simp
      with_reducible rfl
     rotate_left
     ·simp only [Act.put,sa_,s0_,ss_,i64_w,i32_w]
      rfl
     refine take_ (i:=1) (N:=some 39) (v:=?_) (a':=?_) #[I,I,O,O,O] rfl rfl (by kernel_rfl) (fun _ _ _ h=>h) (Or.inl ⟨by rfl,?_⟩) hHeld ?_ ?_
     rotate_left
     ·rintro w' ⟨s0,s1,s2,s3⟩
      go_simp
      with_reducible rfl
     rotate_left
     ·simp only [Act.put,sa_,s0_,ss_,i64_w,i32_w]
      rfl
     refine one_ (i:=2) (N:=some 40) #[I,I,I,O,O] rfl rfl (by kernel_rfl) (by decide) (fun K hK=>?_)
     refine gs_ Tryd.func12 #[.agg #[.int .i64 a0_0,.slice A0_1 l0_1.length c0_1]] ?_
     with_reducible refine (laws_toRing.calls k a0_0 _ _ l0_1 t579 t580 _ ?s1 ?s2 A17.out).mono ?_
     (case s1=>repeat (first | exact (Kd.C_below HR0_1.out HB.out) | (with_reducible refine Kd.C_alloc ?_ _) | (with_reducible refine Kd.C_drewN ?_ _) | (with_reducible refine Kd.C_drew ?_)))
     (case s2=>exact HC0_1.out)
     rintro e w39 ⟨v581,rfl,ho0,hb⟩
     refine ⟨_,rfl,?_⟩
     refine as8_ (Kd.R_elder' (z2_ HO566.out) (Kd.R_base ho0) hb) (Kd.R_below (z2_ HO569.out) hb) (Kd.R_elder' (z2_ HO573.out) (Kd.R_base ho0) hb) (Kd.R_below (z2_ HO577.out) hb) (Kd.R_lower (Kd.R_new' (Kd.R_new' ho0 (Kd.R_lt (z2_ HO566.out))) (Kd.R_lt (z2_ HO573.out))) (below_size (z7_ HB.out GE561.out GE574.out))) (blkB_ BK561.out hb) (blkB_ BK574.out hb) (below_step (z7_ HB.out GE561.out GE574.out) hb) ?_
     clear HO566 HO569 HO573 HO577 BK561 BK574 HB
     intro HO566 HO569 HO573 HO577 HO582 BK561 BK574 HB
     (try clear hb)
     (try clear ho0)
     obtain ⟨Ao40,co40,eo40⟩:=Kd.R_slice HO582.out
     (first | subst eo40 | (injection eo40 with f1_ f2_ f3_;have f4_:=f1_.symm;have f5_:=f3_.symm;clear f1_ f2_ f3_;subst f4_;subst f5_))
     refine hK.out _ _ (cj2_ BK574.out (cc2_ BK561.out)) (fun hHeld=>?_)
     clear hK K
     refine nm_ 40 ?_
     refine one_ (i:=3) (N:=some 41) #[I,I,I,I,O] rfl rfl (by kernel_rfl) (by decide) (fun K hK=>?_)
     refine gs_ Tryd.func14 #[.agg #[.int .i64 t570,.slice Ao34 t571.length co34],.agg #[.int .i64 t579,.slice Ao40 t580.length co40]] ?_
     with_reducible refine (laws_eqRing.calls k t570 _ _ t571 t579 _ _ t580 true _ ?s1 ?s2 ?s3 ?s4 A18.out).mono ?_
     (case s1=>repeat (first | exact (Kd.R_reads' HO573.out).2.2 | (with_reducible refine Kd.C_alloc ?_ _) | (with_reducible refine Kd.C_drewN ?_ _) | (with_reducible refine Kd.C_drew ?_)))
     (case s2=>exact (Kd.R_reads' HO573.out).2.1)
     (case s3=>repeat (first | exact (Kd.R_reads' HO582.out).2.2 | (with_reducible refine Kd.C_alloc ?_ _) | (with_reducible refine Kd.C_drewN ?_ _) | (with_reducible refine Kd.C_drew ?_)))
     (case s4=>exact (Kd.R_reads' HO582.out).2.1)
     rintro e w41 ⟨rfl,hb⟩
     refine ⟨_,rfl,?_⟩
     refine as8_ (Kd.R_below (z2_ HO566.out) hb) (Kd.R_below (z2_ HO569.out) hb) (Kd.R_below (z2_ HO573.out) hb) (Kd.R_below (z2_ HO577.out) hb) (Kd.R_below (z2_ HO582.out) hb) (blkB_ BK561.out hb) (blkB_ BK574.out hb) (below_step (z7_ HB.out GE561.out GE574.out) hb) ?_
     clear HO566 HO569 HO573 HO577 HO582 BK561 BK574 HB
     intro HO566 HO569 HO573 HO577 HO582 BK561 BK574 HB
     (try clear hb)
     refine hK.out _ _ (cj2_ BK574.out (cc2_ BK561.out)) (fun hHeld=>?_)
     clear hK K
     refine nm_ 41 ?_
     refine pure_ (i:=4) (N:=some 42) (v:=?_) (a':=?_) #[I,I,I,I,I] rfl rfl (by kernel_rfl) (fun _ _ _ h=>h) (Or.inl ⟨by rfl,?_⟩) ?_ ?_
     rotate_left
     ·intro w'
      go_simp
      with_reducible rfl
     rotate_left
     ·simp only [Act.put,sa_,s0_,ss_,i64_w,i32_w]
      rfl
     refine done_ (by kernel_rfl) ?_
     have ⟨hcz42_0,hcz42_1,hfz42_0,hfz42_1⟩:=cz2_ BK574.out
     go_upto_region 16 with (first | ((with_reducible refine gc_ 22 ?_);refine gl_ (some 45) Tryd.func22 #[.agg #[.int .i64 t570,.slice Ao34 t571.length co34],.int .i64 1] ?_;(with_reducible refine (laws_markRing.calls k t570 (fun k_=>some k_=(.slice Ao34 t571.length co34:Value).ownBlock) (.slice Ao34 t571.length co34) t571 1 t584 t585 w _ ?s1 ?s2 A20.out).mono ?_);(case s1=>repeat (first | (with_reducible first | exact HB.out | apply below_alloc | apply pw_below_drewN | apply below_drew1 | refine below_set ?_ GE561.out | refine below_set ?_ GE574.out) | exact HB.out));(case s2=>exact Kd.R_tight rfl HO573.out);rintro e w43 ⟨rfl,hy0,hb,hkp⟩;refine ⟨_,rfl,?_⟩;refine as8_ (blk_kept (z4_ BK561.out) hkp (fun hs_=>(fun e_=>(Kd.R_ne HO573.out BK561.out (by decide)) e_) hs_)) (Kd.R_mono (ok':=fun k_=>some k_≠(.slice Ao34 t571.length co34:Value).ownBlock∧some k_≠(.slice Ao40 t580.length co40:Value).ownBlock) (Kd.R_keptB (HO566.out) hkp (fun k_ hk_ hs_=>(hk_.1.2) hs_)) (fun k_ hk_=>⟨hk_.1.1.2,hk_.1.2⟩)) (Kd.R_mono (ok':=fun k_=>some k_≠(.slice Ao36 t575.length co36:Value).ownBlock) (Kd.R_keptB ((Kd.R_apart' HO569.out (Kd.R_typed HO573.out) (by decide))) hkp (fun k_ hk_ hs_=>(hk_.2) hs_)) (fun k_ hk_=>hk_.1.1.2)) (Kd.R_reok rfl hy0 (fun k_ e_=>HO573.out.1 k_ e_)) (blk_kept (z4_ BK574.out) hkp (fun hs_=>(fun e_=>(Kd.R_ne HO573.out BK574.out (by decide)) e_) hs_)) (Kd.R_mono (ok':=fun k_=>some k_≠(.slice Ao37 t567.length co37:Value).ownBlock) (Kd.R_keptB ((Kd.R_apart' HO577.out (Kd.R_typed HO573.out) (by decide))) hkp (fun k_ hk_ hs_=>(hk_.2) hs_)) (fun k_ hk_=>hk_.1.1.2)) (Kd.R_mono (ok':=fun k_=>some k_≠(.slice Ao27 t564.length co27:Value).ownBlock∧some k_≠(.slice Ao34 t571.length co34:Value).ownBlock) (Kd.R_keptB (HO582.out) hkp (fun k_ hk_ hs_=>(hk_.2) hs_)) (fun k_ hk_=>⟨hk_.1.1.2,hk_.1.2⟩)) (hb) ?_;clear BK561 HO566 HO569 HO573 BK574 HO577 HO582 HB;intro BK561 HO566 HO569 HO573 BK574 HO577 HO582 HB;(try clear hb);(try clear hkp);(try clear hy0)))
     (try simp only [Act.put,sa_,s0_,ss_])
     go_cut [53] (fun v53 wc=>∃ (kq:Nat) (x53_20:Bool),v53 = .bool x53_20∧Aside0 (laws_FnExactOwners.j0 kq a1 a2 t567 t575 x53_20 a0_0 l0_1=some r)∧Aside0 (kq≤k)∧Aside0 (Kd.R (Kd.int .i64) 2 wc w.heap.size (fun k_=>some k_≠((.slice Ao36 t575.length co36):Value).ownBlock) (.slice Ao37 t567.length co37) t567)∧Aside0 (Kd.R (Kd.int .i64) 2 wc w.heap.size (fun k_=>some k_≠((.slice Ao37 t567.length co37):Value).ownBlock) (.slice Ao36 t575.length co36) t575)∧Aside0 (Kd.R k57 57 wc w.heap.size (fun _=>True) (.slice Ao34 t571.length co34) t585)∧Aside0 (wc.heap[gb561]? = some (.cells #[.int .i64 a0_0,(.slice A0_1 l0_1.length c0_1)] 24 (0,0)))∧Aside0 (wc.heap[gb574]? = some (.cells #[.int .i64 t570,(.slice Ao34 t571.length co34)] 29 (0,0)))∧Aside0 (Below w.heap.size w wc))
     case first =>
      have H:=HC21.out
      clear HC21
      by_cases c44:t584<0
      ·rw [if_pos c44] at H
       have c44b0:decide (t584<0)=true:=decide_eq_true c44
       clear c44
       (first | rw [c44b0] | (simp only [i64_w,i32_w];rw [c44b0]) | skip)
       have H':=Aside0.mk H
       clear H
       go_wp2
       go_meet
       case rel=>exact ⟨_,(true),(z1_),H',⟨by first | omega | exact Nat.le_refl _⟩,⟨z2_ HO569.out⟩,⟨z2_ HO577.out⟩,⟨z32_ HO573.out⟩,⟨z4_ BK561.out⟩,⟨z4_ BK574.out⟩,⟨z7_ HB.out GE561.out GE574.out⟩⟩
      ·rw [if_neg c44] at H
       have c44b0:decide (t584<0)=false:=decide_eq_false c44
       clear c44
       (first | rw [c44b0] | (simp only [i64_w,i32_w];rw [c44b0]) | skip)
       replace H:=Option.bind_eq_some_iff.mp H
       obtain ⟨t586,A450,H⟩:=H
       replace H:(laws_FnExactOwners.j0 k a1 a2 t567 t575 (!t586) a0_0 l0_1)=some r:=H
       have A45:=Aside0.mk A450
       clear A450
       have H':=Aside0.mk H
       clear H
       go_wp2_with (first | (go_at_call 25;(with_reducible refine (laws_eqInt64S.calls k _ _ t575 _ _ t567 t586 _ ?s1 ?s2 ?s3 ?s4 A45.out).mono ?_);(case s1=>repeat (first | exact (Kd.R_reads' HO577.out).2.2 | (with_reducible refine Kd.C_alloc ?_ _) | (with_reducible refine Kd.C_drewN ?_ _) | (with_reducible refine Kd.C_drew ?_)));(case s2=>exact (Kd.R_reads' HO577.out).2.1);(case s3=>repeat (first | exact (Kd.R_reads' HO569.out).2.2 | (with_reducible refine Kd.C_alloc ?_ _) | (with_reducible refine Kd.C_drewN ?_ _) | (with_reducible refine Kd.C_drew ?_)));(case s4=>exact (Kd.R_reads' HO569.out).2.1);rintro e w' ⟨rfl,⟨nd,rfl⟩⟩))
       go_meet
       case rel=>exact ⟨_,(!t586),(z1_),H',⟨by first | omega | exact Nat.le_refl _⟩,⟨z2_ HO569.out⟩,⟨z2_ HO577.out⟩,⟨z32_ HO573.out⟩,⟨z4_ BK561.out⟩,⟨z4_ BK574.out⟩,⟨z7_ HB.out GE561.out GE574.out⟩⟩
     case rest =>
      clear HC21
      try clear c1
      try clear c2
      try clear p2
      try clear c3
      try clear c4
      try clear c4b0
      try clear c4b1
      try clear c7
      try clear c7b0
      try clear c10
      try clear c12
      try clear c14
      try clear c16
      try clear c19
      try clear c22
      try clear c25
      try clear c28
      try clear c29
      try clear c32
      try clear c44
      try clear c44b0
      try clear hcz23_0
      try clear hcz23_1
      try clear hcz25_0
      try clear hcz25_1
      try clear hcz29_0
      try clear hcz29_1
      try clear hcz33_0
      try clear hcz33_1
      try clear hcz42_0
      try clear hcz42_1
      try clear hcz9_0
      try clear hcz9_1
      try clear hfz23_0
      try clear hfz23_1
      try clear hfz25_0
      try clear hfz25_1
      try clear hfz29_0
      try clear hfz29_1
      try clear hfz33_0
      try clear hfz33_1
      try clear hfz42_0
      try clear hfz42_1
      try clear hfz9_0
      try clear hfz9_1
      obtain ⟨kq,x53_20,rfl,HA,HJ20,HO_8,HO_10,HO_575001,BK561,BK574,HB⟩:=hcut
      have hl575001_20:=(Kd.R_reads' HO_575001.out).1
      rw [hl575001_20] at HO_575001
      (try simp only [hl575001_20])
      (try simp only [hl575001_20] at BK561)
      (try simp only [hl575001_20] at BK574)
      (try simp only [hl575001_20] at HO_8)
      (try simp only [hl575001_20] at HO_10)
      cases kq with
      | zero=>exact absurd HA.out (by simp [laws_FnExactOwners.j0])
      | succ kj20 =>
       have H:=HA.out
       clear HA
       simp only [laws_FnExactOwners.j0] at H
       by_cases c46:x53_20=true
       ·subst c46
        have H1:(none)=some r:=by rw [if_pos rfl] at H;exact H
        clear H
        have H:=H1
        clear H1
        exact absurd H (by simp)
       ·replace c46:=Bool.eq_false_iff.mpr c46
        subst c46
        have H1:((laws_markInt64S.f kj20 t575 1).bind fun bt587=>((laws_heldInt64S.f kj20 bt587.2 1).bind fun t589=>(if t589<0 then (none) else (if t589=bt587.1 then ((laws_toRing.f kj20 a0_0 l0_1).bind fun bt590=>((impl_Owners.f kj20 bt590.1 bt590.2 a1 a2).bind fun t594=>((laws_eqInt64S.f kj20 t594 t567).bind fun t597=>(if t597=true then ((laws_heldInt64S.f kj20 bt587.2 1).bind fun t598=>(if t598<0 then (none) else (if t598=bt587.1 then (some true) else (none)))) else (none))))) else (none)))))=some r:=by rw [if_neg (show ¬ (false=true) by decide)] at H;exact H
        clear H
        have H:=H1
        clear H1
        replace H:=Option.bind_eq_some_iff.mp H
        obtain ⟨⟨t587,t588⟩,A470,H⟩:=H
        replace H:((laws_heldInt64S.f kj20 t588 1).bind fun t589=>(if t589<0 then (none) else (if t589=t587 then ((laws_toRing.f kj20 a0_0 l0_1).bind fun bt590=>((impl_Owners.f kj20 bt590.1 bt590.2 a1 a2).bind fun t594=>((laws_eqInt64S.f kj20 t594 t567).bind fun t597=>(if t597=true then ((laws_heldInt64S.f kj20 t588 1).bind fun t598=>(if t598<0 then (none) else (if t598=t587 then (some true) else (none)))) else (none))))) else (none))))=some r:=H
        have A47:=Aside0.mk A470
        clear A470
        replace H:=Option.bind_eq_some_iff.mp H
        obtain ⟨t589,A480,H⟩:=H
        replace H:(if t589<0 then (none) else (if t589=t587 then ((laws_toRing.f kj20 a0_0 l0_1).bind fun bt590=>((impl_Owners.f kj20 bt590.1 bt590.2 a1 a2).bind fun t594=>((laws_eqInt64S.f kj20 t594 t567).bind fun t597=>(if t597=true then ((laws_heldInt64S.f kj20 t588 1).bind fun t598=>(if t598<0 then (none) else (if t598=t587 then (some true) else (none)))) else (none))))) else (none)))=some r:=H
        have A48:=Aside0.mk A480
        clear A480
        by_cases c49:t589<0
        ·rw [if_pos c49] at H
         exact absurd H (by simp)
        ·rw [if_neg c49] at H
         have c49b0:decide (t589<0)=false:=decide_eq_false c49
         clear c49
         by_cases c50:t589=t587
         ·rw [if_pos c50] at H
          have c50b0:(t589 == t587)=true:=beq_iff_eq.mpr c50
          have c50b1:(t589 != t587)=false:=bne_eq_false_iff_eq.mpr c50
          clear c50
          replace H:=Option.bind_eq_some_iff.mp H
          obtain ⟨⟨t590,t591⟩,A510,H⟩:=H
          replace H:((impl_Owners.f kj20 t590 t591 a1 a2).bind fun t594=>((laws_eqInt64S.f kj20 t594 t567).bind fun t597=>(if t597=true then ((laws_heldInt64S.f kj20 t588 1).bind fun t598=>(if t598<0 then (none) else (if t598=t587 then (some true) else (none)))) else (none))))=some r:=H
          have A51:=Aside0.mk A510
          clear A510
          replace H:=Option.bind_eq_some_iff.mp H
          obtain ⟨t594,A520,H⟩:=H
          replace H:((laws_eqInt64S.f kj20 t594 t567).bind fun t597=>(if t597=true then ((laws_heldInt64S.f kj20 t588 1).bind fun t598=>(if t598<0 then (none) else (if t598=t587 then (some true) else (none)))) else (none)))=some r:=H
          have A52:=Aside0.mk A520
          clear A520
          replace H:=Option.bind_eq_some_iff.mp H
          obtain ⟨t597,A530,H⟩:=H
          replace H:(if t597=true then ((laws_heldInt64S.f kj20 t588 1).bind fun t598=>(if t598<0 then (none) else (if t598=t587 then (some true) else (none)))) else (none))=some r:=H
          have A53:=Aside0.mk A530
          clear A530
          by_cases c54:t597=true
          ·subst c54
           have H1:((laws_heldInt64S.f kj20 t588 1).bind fun t598=>(if t598<0 then (none) else (if t598=t587 then (some true) else (none))))=some r:=by rw [if_pos rfl] at H;exact H
           clear H
           have H:=H1
           clear H1
           replace H:=Option.bind_eq_some_iff.mp H
           obtain ⟨t598,A550,H⟩:=H
           replace H:(if t598<0 then (none) else (if t598=t587 then (some true) else (none)))=some r:=H
           have A55:=Aside0.mk A550
           clear A550
           by_cases c56:t598<0
           ·rw [if_pos c56] at H
            exact absurd H (by simp)
           ·rw [if_neg c56] at H
            have c56b0:decide (t598<0)=false:=decide_eq_false c56
            clear c56
            by_cases c57:t598=t587
            ·rw [if_pos c57] at H
             have c57b0:(t598 == t587)=true:=beq_iff_eq.mpr c57
             have c57b1:(t598 != t587)=false:=bne_eq_false_iff_eq.mpr c57
             clear c57
             obtain rfl:=Option.some.inj H
             go_wp2_with (first | ((with_reducible refine gc_ 26 ?_);refine gl_ (some 56) Tryd.func26 #[.slice Ao36 t575.length co36,.int .i64 1] ?_;(with_reducible refine (laws_markInt64S.calls kj20 (fun k_=>some k_=(.slice Ao36 t575.length co36:Value).ownBlock) (.slice Ao36 t575.length co36) t575 1 t587 t588 w _ ?s1 ?s2 A47.out).mono ?_);(case s1=>repeat (first | (with_reducible first | exact HB.out | apply below_alloc | apply pw_below_drewN | apply below_drew1 | refine below_set ?_ GE561.out | refine below_set ?_ GE574.out) | exact HB.out));(case s2=>exact Kd.R_tight rfl HO_10.out);rintro e w58 ⟨rfl,hy0,hb,hkp⟩;refine ⟨_,rfl,?_⟩;refine as6_ (Kd.R_mono (ok':=fun k_=>some k_≠(.slice Ao36 t575.length co36:Value).ownBlock) (Kd.R_keptB (HO_8.out) hkp (fun k_ hk_ hs_=>(hk_) hs_)) (fun k_ hk_=>hk_.1)) (Kd.R_reok rfl hy0 (fun k_ e_=>HO_10.out.1 k_ e_)) (Kd.R_mono (ok':=fun k_=>True) (Kd.R_keptB ((Kd.R_apart' HO_575001.out (Kd.R_typed HO_10.out) (by decide))) hkp (fun k_ hk_ hs_=>(hk_.2) hs_)) (fun k_ hk_=>trivial)) (blk_kept (z4_ BK561.out) hkp (fun hs_=>(fun e_=>(Kd.R_ne HO_10.out BK561.out (by decide)) e_) hs_)) (blk_kept (z4_ BK574.out) hkp (fun hs_=>(fun e_=>(Kd.R_ne HO_10.out BK574.out (by decide)) e_) hs_)) (hb) ?_;clear HO_8 HO_10 HO_575001 BK561 BK574 HB;intro HO_8 HO_10 HO_575001 BK561 BK574 HB;(try clear hb);(try clear hkp);(try clear hy0)) | ((with_reducible refine gc_ 27 ?_);refine goesL_ (some 59) rfl rfl Tryd.func27 (by kernel_rfl) rfl #[.slice Ao36 t588.length co36,.int .i64 1] rfl (by (try simp only [List.map_toArray,List.map_cons,List.map_nil]);first | done | (rw [show t588.length=t575.length from (Kd.R_reads' HO_10.out).1.symm] <;> rfl) | rfl | (simp only [List.length_drop,List.length_take];rfl)) ?_;(with_reducible refine (laws_heldInt64S.calls kj20 _ _ t588 1 t589 _ ?s1 ?s2 A48.out).mono ?_);(case s1=>repeat (first | exact (Kd.R_reads' HO_10.out).2.2 | (with_reducible refine Kd.C_alloc ?_ _) | (with_reducible refine Kd.C_drewN ?_ _) | (with_reducible refine Kd.C_drew ?_)));(case s2=>rw [show t588.length=t575.length from (Kd.R_reads' HO_10.out).1.symm];exact (Kd.R_reads' HO_10.out).2.1);rintro e w' ⟨rfl,⟨nd,rfl⟩⟩;refine ⟨_,rfl,?_⟩;have hnb59:=NB561_574.out;have hnc59:=NB574_561.out;have ⟨hcz60_0,hcz60_1,hfz60_0,hfz60_1⟩:=cz2_ BK561.out) | ((with_reducible refine gc_ 12 ?_);refine gl_ (some 66) Tryd.func12 #[.agg #[.int .i64 a0_0,.slice A0_1 l0_1.length c0_1]] ?_;(with_reducible refine (laws_toRing.calls kj20 a0_0 _ _ l0_1 t590 t591 _ ?s1 ?s2 A51.out).mono ?_);(case s1=>repeat (first | exact (Kd.C_below HR0_1.out (z7_ HB.out GE561.out GE574.out)) | (with_reducible refine Kd.C_alloc ?_ _) | (with_reducible refine Kd.C_drewN ?_ _) | (with_reducible refine Kd.C_drew ?_)));(case s2=>exact HC0_1.out);rintro e w61 ⟨v592,rfl,ho0,hb⟩;refine ⟨_,rfl,?_⟩;refine as7_ (Kd.R_below (z2_ HO_8.out) hb) (Kd.R_below (z2_ HO_10.out) hb) (Kd.R_elder' (z2_ HO_575001.out) (Kd.R_base ho0) hb) (Kd.R_lower (Kd.R_new' ho0 (Kd.R_lt (z2_ HO_575001.out))) (below_size (z7_ HB.out GE561.out GE574.out))) (blkB_ BK561.out hb) (blkB_ BK574.out hb) (below_step (z7_ HB.out GE561.out GE574.out) hb) ?_;clear HO_8 HO_10 HO_575001 BK561 BK574 HB;intro HO_8 HO_10 HO_575001 HO593 BK561 BK574 HB;(try clear hb);(try clear ho0);obtain ⟨Ao62,co62,eo62⟩:=Kd.R_slice HO593.out;subst eo62) | ((with_reducible refine gc_ 29 ?_);refine gl_ (some 69) Tryd.func29 #[.agg #[.int .i64 t590,.slice Ao62 t591.length co62],.string a1,.int .i64 a2] ?_;(with_reducible refine (impl_Owners.calls kj20 t590 _ _ t591 a1 a2 t594 _ ?s1 ?s2 A52.out).mono ?_);(case s1=>repeat (first | exact (Kd.R_reads' HO593.out).2.2 | (with_reducible refine Kd.C_alloc ?_ _) | (with_reducible refine Kd.C_drewN ?_ _) | (with_reducible refine Kd.C_drew ?_)));(case s2=>exact (Kd.R_reads' HO593.out).2.1);rintro e w63 ⟨v595,rfl,ho0,hb⟩;refine ⟨_,rfl,?_⟩;refine as8_ (Kd.R_elder' (z2_ HO_8.out) (Kd.R_base ho0) hb) (Kd.R_elder' (z2_ HO_10.out) (Kd.R_base ho0) hb) (Kd.R_below (z2_ HO_575001.out) hb) (Kd.R_below (z2_ HO593.out) hb) (Kd.R_lower (Kd.R_new' (Kd.R_new' ho0 (Kd.R_lt (z2_ HO_8.out))) (Kd.R_lt (z2_ HO_10.out))) (below_size (z7_ HB.out GE561.out GE574.out))) (blkB_ BK561.out hb) (blkB_ BK574.out hb) (below_step (z7_ HB.out GE561.out GE574.out) hb) ?_;clear HO_8 HO_10 HO_575001 HO593 BK561 BK574 HB;intro HO_8 HO_10 HO_575001 HO593 HO596 BK561 BK574 HB;(try clear hb);(try clear ho0);obtain ⟨Ao64,co64,eo64⟩:=Kd.R_slice HO596.out;subst eo64) | ((with_reducible refine gc_ 25 ?_);refine gl_ (some 72) Tryd.func25 #[.slice Ao64 t594.length co64,.slice Ao37 t567.length co37] ?_;(with_reducible refine (laws_eqInt64S.calls kj20 _ _ t594 _ _ t567 true _ ?s1 ?s2 ?s3 ?s4 A53.out).mono ?_);(case s1=>repeat (first | exact (Kd.R_reads' HO596.out).2.2 | (with_reducible refine Kd.C_alloc ?_ _) | (with_reducible refine Kd.C_drewN ?_ _) | (with_reducible refine Kd.C_drew ?_)));(case s2=>exact (Kd.R_reads' HO596.out).2.1);(case s3=>repeat (first | exact (Kd.R_reads' HO_8.out).2.2 | (with_reducible refine Kd.C_alloc ?_ _) | (with_reducible refine Kd.C_drewN ?_ _) | (with_reducible refine Kd.C_drew ?_)));(case s4=>exact (Kd.R_reads' HO_8.out).2.1);rintro e w' ⟨rfl,⟨nd,rfl⟩⟩;refine ⟨_,rfl,?_⟩) | ((with_reducible refine gc_ 27 ?_);refine goesL_ (some 76) rfl rfl Tryd.func27 (by kernel_rfl) rfl #[.slice Ao36 t588.length co36,.int .i64 1] rfl (by (try simp only [List.map_toArray,List.map_cons,List.map_nil]);first | done | (rw [show t588.length=t575.length from (Kd.R_reads' HO_10.out).1.symm] <;> rfl) | rfl | (simp only [List.length_drop,List.length_take];rfl)) ?_;(with_reducible refine (laws_heldInt64S.calls kj20 _ _ t588 1 t598 _ ?s1 ?s2 A55.out).mono ?_);(case s1=>repeat (first | exact (Kd.R_reads' HO_10.out).2.2 | (with_reducible refine Kd.C_alloc ?_ _) | (with_reducible refine Kd.C_drewN ?_ _) | (with_reducible refine Kd.C_drew ?_)));(case s2=>rw [show t588.length=t575.length from (Kd.R_reads' HO_10.out).1.symm];exact (Kd.R_reads' HO_10.out).2.1);rintro e w' ⟨rfl,⟨nd,rfl⟩⟩;refine ⟨_,rfl,?_⟩))
             go_ret
             exact ⟨z10_,z7_ HB.out GE561.out GE574.out⟩
            ·rw [if_neg c57] at H
             exact absurd H (by simp)
          ·replace c54:=Bool.eq_false_iff.mpr c54
           subst c54
           have H1:(none)=some r:=by rw [if_neg (show ¬ (false=true) by decide)] at H;exact H
           clear H
           have H:=H1
           clear H1
           exact absurd H (by simp)
         ·rw [if_neg c50] at H
          exact absurd H (by simp)
    ·replace c19:=Bool.eq_false_iff.mpr c19
     subst c19
     have H1:(none)=some r:=by rw [if_neg (show ¬ (false=true) by decide)] at H;exact H
     clear H
     have H:=H1
     clear H1
     exact absurd H (by simp)
   ·replace c16:=Bool.eq_false_iff.mpr c16
    subst c16
    have H1:(none)=some r:=by rw [if_neg (show ¬ (false=true) by decide)] at H;exact H
    clear H
    have H:=H1
    clear H1
    exact absurd H (by simp)

end Go.Proofs.YtdogendcjmgnnaaDoor.P

namespace Go.Proofs.YtdogendcjmgnnaaDoor.P
open Go.RowKit Go.Proofs.YtdogendcjmgnnaaDoor.RO
def laws_FnExactOwners.Pure:Prop:=∀ (x0:S24) (x1:ByteArray) (x2:Int),wfT24 x0→x1.size≤140737488351232→(Lit.int .i64 x2).wf=true→∃ k,laws_FnExactOwners.f k x0.f0 x0.f1 x1 x2=some true
end Go.Proofs.YtdogendcjmgnnaaDoor.P

namespace Go.Proofs.YtdogendcjmgnnaaDoor.Q
open Go.RowKit Go.Proofs.YtdogendcjmgnnaaDoorW.PrintWords Go.Proofs.YtdogendcjmgnnaaDoorW.PrintMore

theorem w64 {x:Int} (h0 : -9223372036854775808≤x) (h1:x≤9223372036854775807):wrap64 x=x:=by unfold wrap64;omega
theorem evIte {α:Type} {c:Prop} [Decidable c] {f g:Nat→Option α} {r:α} (h:c→Ev f r) (h':¬ c→Ev g r):Ev (fun k=>if c then f k else g k) r:=by
  by_cases hc:c
  · simp only [if_pos hc];exact h hc
  · simp only [if_neg hc];exact h' hc
theorem evPos {α:Type} {c:Prop} [Decidable c] {f g:Nat→Option α} {r:α} (hc:c) (h:Ev f r):Ev (fun k=>if c then f k else g k) r:=by
  simp only [if_pos hc];exact h
theorem evNeg {α:Type} {c:Prop} [Decidable c] {f g:Nat→Option α} {r:α} (hc:¬ c) (h:Ev g r):Ev (fun k=>if c then f k else g k) r:=by
  simp only [if_neg hc];exact h
theorem evBind1 {α β:Type} {g:Option α} {f:Nat→α→Option β} {a:α} {r:β} (h:g=some a) (k:Ev (fun n=>f n a) r):Ev (fun n=>g.bind (f n)) r:=by
  subst h;exact k
theorem dropCons {α:Type} {l:List α} {i:Nat} {a:α} {s:List α} (h:l.drop i=a :: s) (d:α):i<l.length∧l.getD i d=a∧l.drop (i+1)=s:=by
  have hl:i<l.length:=by
    have:=congrArg List.length h
    simp at this;omega
  rw [List.drop_eq_getElem_cons hl] at h
  injection h with h1 h2
  exact ⟨hl,by rw [List.getD_eq_getElem?_getD,List.getElem?_eq_getElem hl];exact h1,h2⟩
theorem dropNil {α:Type} {l:List α} {i:Nat} (h:l.drop i=[]):l.length≤i:=by
  have:=congrArg List.length h
  simp at this;omega
theorem dropNil' {α:Type} {l:List α} {i:Nat} (h:l.drop i=[]) (hi:i≤l.length):l.length=i:=by
  have:=dropNil h;omega
theorem wraps_i64 (n:Int) (h₀:0≤n) (h₁:n<2 ^ 63):IntKind.i64.wrap n=n:=by rw [IntKind.wrap_i64];omega
theorem getD_mid {α:Type} (pre:List α) (m:α) (s:List α) (d:α):(pre ++ m :: s).getD pre.length d=m:=by
  rw [List.getD_eq_getElem?_getD,List.getElem?_append_right (Nat.le_refl _),Nat.sub_self];rfl
theorem set_mid {α:Type} (pre:List α) (m x:α) (s:List α):(pre ++ m :: s).set pre.length x=pre ++ x :: s:=by
  rw [List.set_append_right _ _ (Nat.le_refl _),Nat.sub_self];rfl
end Go.Proofs.YtdogendcjmgnnaaDoor.Q

namespace Go.Proofs.YtdogendcjmgnnaaDoor.Q
open Go.RowKit Go.Proofs.YtdogendcjmgnnaaDoor.P Go.Proofs.YtdogendcjmgnnaaDoorW.PrintWords Go.Proofs.YtdogendcjmgnnaaDoorW.PrintMore

def isWithin (n low high:Int):Bool:=decide (low≤n) && decide (n≤high)
def isNode (n:Int):Bool:=isWithin n 1 5
theorem l02Is_is (n a b:Int):spec_l02Is.f n a b=some (isWithin n a b):=by
  unfold spec_l02Is.f isWithin
  split
  · rename_i h;simp [show a≤n from h]
  · rename_i h;simp [show ¬ a≤n from h]
theorem l02Node_is (n:Int):spec_l02Node.f n=some (isNode n):=by simp [spec_l02Node.f,l02Is_is,isNode]
theorem within_is (n a b:Int):impl_within.f n a b=some (isWithin n a b):=by
  unfold impl_within.f isWithin
  split
  · rename_i h;simp [show a≤n from h]
  · rename_i h;simp [show ¬ a≤n from h]
theorem isNode_is (n:Int):impl_isNode.f n=some (isNode n):=by simp [impl_isNode.f,within_is,isNode]
theorem isNode_iff (n:Int):isNode n=true ↔ 1≤n∧n≤5:=by simp [isNode,isWithin]
end Go.Proofs.YtdogendcjmgnnaaDoor.Q

namespace Go.Proofs.YtdogendcjmgnnaaDoor.P
open Go.RowKit Go.Proofs.YtdogendcjmgnnaaDoorW.PrintWords Go.Proofs.YtdogendcjmgnnaaDoorW.PrintLast Go.Proofs.YtdogendcjmgnnaaDoorW.PrintMore
attribute [local go_sem] max2_int min2_int max_two min_two max_three min_three max_four min_four   -- for this text's walks alone
set_option linter.unusedVariables false
set_option linter.unusedSimpArgs false

/-! ### laws_heldTokenS: function 71 -/
def laws_heldTokenS.l0:Nat→List (S57)→Int→Int→Option (Int)
 | 0,_,_,_=>none
 | k+1,x0,x1,x5=>if x5<(x0.length:Int) then (if 0≤x5 then (if ((rd_T57 x0 x5).f0)=x1 then (if ((rd_T57 x0 x5).f1)=(wrap64 (x1+1)) then (laws_heldTokenS.l0 k x0 (wrap64 ((wrap64 (x1+1))+1)) (wrap64 (x5+1))) else (none)) else (none)) else (none)) else (some x1)
def laws_heldTokenS.f (k:Nat) (l0:List (S57)) (a1:Int):Option (Int):=laws_heldTokenS.l0 k l0 a1 0
theorem laws_heldTokenS.mono_l:∀ k,(∀ y0 y1 y2,LeO (laws_heldTokenS.l0 k y0 y1 y2) (laws_heldTokenS.l0 (k+1) y0 y1 y2))
 | 0=>fun _ _ _ r h=>by simp [laws_heldTokenS.l0] at h
 | k+1=>by
  have ih0:=laws_heldTokenS.mono_l k
  ·intro y0 y1 y2
   unfold laws_heldTokenS.l0
   repeat' first
   | (with_reducible exact ih0 _ _ _)
   | (with_reducible exact LeO.refl _)
   | (with_reducible exact LeO.none _)
   | (with_reducible refine LeO.ite ?_ ?_)
   | (with_reducible refine LeO.bind ?_ (fun _=>?_))
   | exact ih0 _ _ _
   | exact LeO.none _
   | refine LeO.ite ?_ ?_
   | refine LeO.bind ?_ (fun _=>?_)
theorem laws_heldTokenS.mono:∀ a0 a1 k,LeO (laws_heldTokenS.f k a0 a1) (laws_heldTokenS.f (k+1) a0 a1):=by
 intro a0 a1 k
 have ih0:=laws_heldTokenS.mono_l k
 unfold laws_heldTokenS.f
 repeat' first
   | (with_reducible exact ih0 _ _ _)
   | (with_reducible exact LeO.refl _)
   | (with_reducible exact LeO.none _)
   | (with_reducible refine LeO.ite ?_ ?_)
   | (with_reducible refine LeO.bind ?_ (fun _=>?_))
   | exact ih0 _ _ _
   | exact LeO.none _
   | refine LeO.ite ?_ ?_
   | refine LeO.bind ?_ (fun _=>?_)

/-! ### laws_eqRingOut: function 17 -/
def laws_eqRingOut.f (k:Nat) (a0_0:Int) (l0_1:List (S57)) (a0_2:Int) (a1_0:Int) (l1_1:List (S57)) (a1_2:Int):Option (Bool):=(laws_eqRing.f k a0_0 l0_1 a1_0 l1_1).bind fun t320=>(if t320=true then (if a0_2=a1_2 then (some true) else (none)) else (none))
theorem laws_eqRingOut.mono:∀ a0 a1 a2 a3 a4 a5 k,LeO (laws_eqRingOut.f k a0 a1 a2 a3 a4 a5) (laws_eqRingOut.f (k+1) a0 a1 a2 a3 a4 a5):=by
 intro a0 a1 a2 a3 a4 a5 k
 unfold laws_eqRingOut.f
 repeat' first
   | (with_reducible exact laws_eqRing.mono _ _ _ _ _)
   | (with_reducible exact LeO.refl _)
   | (with_reducible exact LeO.none _)
   | (with_reducible refine LeO.ite ?_ ?_)
   | (with_reducible refine LeO.bind ?_ (fun _=>?_))
   | exact laws_eqRing.mono _ _ _ _ _
   | exact LeO.none _
   | refine LeO.ite ?_ ?_
   | refine LeO.bind ?_ (fun _=>?_)

/-! ### laws_heldRing: function 45 -/
def laws_heldRing.f (k:Nat) (a0_0:Int) (l0_1:List (S57)) (a1:Int):Option (Int):=(laws_heldTokenS.f k l0_1 a1).bind fun t332=>(if t332<0 then (none) else (some t332))
theorem laws_heldRing.mono:∀ a0 a1 a2 k,LeO (laws_heldRing.f k a0 a1 a2) (laws_heldRing.f (k+1) a0 a1 a2):=by
 intro a0 a1 a2 k
 unfold laws_heldRing.f
 repeat' first
   | (with_reducible exact laws_heldTokenS.mono _ _ _)
   | (with_reducible exact LeO.refl _)
   | (with_reducible exact LeO.none _)
   | (with_reducible refine LeO.ite ?_ ?_)
   | (with_reducible refine LeO.bind ?_ (fun _=>?_))
   | exact laws_heldTokenS.mono _ _ _
   | exact LeO.none _
   | refine LeO.ite ?_ ?_
   | refine LeO.bind ?_ (fun _=>?_)

/-! ### laws_markRingOut: function 18 -/
def laws_markRingOut.f (k:Nat) (a0_0:Int) (l0_1:List (S57)) (a0_2:Int) (a1:Int):Option (Int × (List (S57))):=(laws_markRing.f k a0_0 l0_1 a1).bind fun bt327=>(some (bt327.1,bt327.2))
theorem laws_markRingOut.mono:∀ a0 a1 a2 a3 k,LeO (laws_markRingOut.f k a0 a1 a2 a3) (laws_markRingOut.f (k+1) a0 a1 a2 a3):=by
 intro a0 a1 a2 a3 k
 unfold laws_markRingOut.f
 repeat' first
   | (with_reducible exact laws_markRing.mono _ _ _ _)
   | (with_reducible exact LeO.refl _)
   | (with_reducible exact LeO.none _)
   | (with_reducible refine LeO.ite ?_ ?_)
   | (with_reducible refine LeO.bind ?_ (fun _=>?_))
   | exact laws_markRing.mono _ _ _ _
   | exact LeO.none _
   | refine LeO.ite ?_ ?_
   | refine LeO.bind ?_ (fun _=>?_)

/-! ### laws_heldRingOut: function 19 -/
def laws_heldRingOut.f (k:Nat) (a0_0:Int) (l0_1:List (S57)) (a0_2:Int) (a1:Int):Option (Int):=(laws_heldRing.f k a0_0 l0_1 a1).bind fun t334=>(if t334<0 then (none) else (some t334))
theorem laws_heldRingOut.mono:∀ a0 a1 a2 a3 k,LeO (laws_heldRingOut.f k a0 a1 a2 a3) (laws_heldRingOut.f (k+1) a0 a1 a2 a3):=by
 intro a0 a1 a2 a3 k
 unfold laws_heldRingOut.f
 repeat' first
   | (with_reducible exact laws_heldRing.mono _ _ _ _)
   | (with_reducible exact LeO.refl _)
   | (with_reducible exact LeO.none _)
   | (with_reducible refine LeO.ite ?_ ?_)
   | (with_reducible refine LeO.bind ?_ (fun _=>?_))
   | exact laws_heldRing.mono _ _ _ _
   | exact LeO.none _
   | refine LeO.ite ?_ ?_
   | refine LeO.bind ?_ (fun _=>?_)
end Go.Proofs.YtdogendcjmgnnaaDoor.P

namespace Go.Proofs.YtdogendcjmgnnaaDoor.Q
open Go.RowKit Go.Proofs.YtdogendcjmgnnaaDoor.P Go.Proofs.YtdogendcjmgnnaaDoorW.PrintWords Go.Proofs.YtdogendcjmgnnaaDoorW.PrintMore

abbrev Tok:=S57
abbrev LTok:=S75
def toTok (m:LTok):Tok:=⟨m.f0,m.f1⟩
theorem szTokenS_is (l:List LTok) (n:Int) (h0:0≤n) (h1:n≤1048576) (hl:l.length≤9223372036854775807) :
    laws_szTokenS.f l n=some (if n<(l.length:Int) then -1 else n-(l.length:Int)):=by
  unfold laws_szTokenS.f
  rw [w64 (by omega) (by omega)]
  split
  · rw [if_pos (by omega)]
  · rw [if_neg (by omega)]
theorem toTokenS_l0 (l:List LTok) (hl:l.length≤1048576):∀ (s:List LTok) (i:Nat),l.drop i=s→i≤l.length→∀ (acc:List Tok),acc.length=l.length→acc.take i=(l.take i).map toTok →
    Ev (fun k=>laws_toTokenS.l0 k l acc (i:Int)) (l.map toTok)
  | [],i,h,hi,acc,ha,hc=>by
    have:=dropNil' h hi
    refine Ev.step (f:=fun _=>some (l.map toTok)) (fun k=>?_) (Ev.now _)
    simp only [laws_toTokenS.l0]
    rw [if_neg (by omega)]
    rw [← this,List.take_of_length_le (by omega),List.take_length] at hc
    rw [hc]
  | m :: s,i,h,hi,acc,ha,hc=>by
    obtain ⟨h1,h2,h3⟩:=dropCons h z75
    have hr:rd_T75 l (i:Int)=m:=by simpa [rd_T75] using h2
    have hm:l[i]'h1=m:=by
      rw [List.getD_eq_getElem?_getD,List.getElem?_eq_getElem h1] at h2;exact h2
    refine Ev.step (fun k=>?_) (toTokenS_l0 l hl s (i+1) h3 (by omega) (acc.set i (toTok m)) (by simpa using ha) (by
      rw [List.take_succ_eq_append_getElem (by simp;omega),List.take_succ_eq_append_getElem h1,List.map_append,List.take_set_of_le (by omega),hc]
      simp [hm]))
    simp only [laws_toTokenS.l0,laws_toToken.f,hr,Option.bind_some,Int.toNat_natCast]
    rw [if_pos (by omega),if_pos (by omega),if_pos (by omega),w64 (by omega) (by omega)]
    rfl
theorem toTokenS_ev (l:List LTok) (hl:l.length≤1048576):Ev (fun k=>laws_toTokenS.f k l) (l.map toTok):=by
  unfold laws_toTokenS.f
  refine evPos (by omega) (evPos (by omega) ?_)
  exact toTokenS_l0 l hl l 0 rfl (by omega) _ (by simp) (by simp)
theorem eqToken_refl (a b:Int):laws_eqToken.f a b a b=some true:=by simp [laws_eqToken.f]
theorem eqTokenS_l0 (l:List Tok) (hl:l.length≤4611686018427387904):∀ (s:List Tok) (i:Nat),l.drop i=s→i≤l.length →
    Ev (fun k=>laws_eqTokenS.l0 k l l (i:Int)) true
  | [],i,h,hi=>by
    have:=dropNil' h hi
    refine Ev.step (f:=fun _=>some true) (fun k=>?_) (Ev.now _)
    simp only [laws_eqTokenS.l0]
    rw [if_neg (by omega)]
  | m :: s,i,h,hi=>by
    obtain ⟨h1,h2,h3⟩:=dropCons h z57
    refine Ev.step (fun k=>?_) (eqTokenS_l0 l hl s (i+1) h3 (by omega))
    simp only [laws_eqTokenS.l0,eqToken_refl,Option.bind_some]
    rw [if_pos (by omega),if_pos (by omega),if_pos (by omega),if_pos trivial,w64 (by omega) (by omega)]
    rfl
theorem eqTokenS_ev (l:List Tok) (hl:l.length≤4611686018427387904):Ev (fun k=>laws_eqTokenS.f k l l) true:=by
  unfold laws_eqTokenS.f
  exact evPos rfl (eqTokenS_l0 l hl l 0 rfl (by omega))
def tokL:Int→List Tok→List Tok
  | _,[]=>[]
  | n,_ :: r=>⟨n,n+1⟩ :: tokL (n+2) r
theorem markTokenS_l0 (N:Int) (hN:N≤1152921504606846976):∀ (s pre:List Tok) (n:Int),0≤n→n+2*(s.length:Int)≤N→(pre.length:Int)+s.length≤N →
    Ev (fun k=>laws_markTokenS.l0 k (pre ++ s) n (pre.length:Int)) (n+2*(s.length:Int),pre ++ tokL n s)
  | [],pre,n,h0,h1,h2=>by
    refine Ev.step (f:=fun _=>some (n,pre)) (fun k=>?_) (by simp [tokL];exact Ev.now _)
    simp only [laws_markTokenS.l0,List.append_nil]
    rw [if_neg (by omega)]
  | m :: s,pre,n,h0,h1,h2=>by
    simp only [List.length_cons] at h1 h2
    have ih:=markTokenS_l0 N hN s (pre ++ [⟨n,n+1⟩]) (n+2) (by omega) (by omega) (by simp;omega)
    simp only [List.length_append,List.length_cons,List.length_nil,List.append_assoc,List.cons_append,List.nil_append] at ih
    refine Ev.step (fun k=>?_) (show Ev _ (n+2*((m :: s).length:Int),pre ++ tokL n (m :: s)) from by
      simp only [tokL,List.length_cons]
      rw [show n+2*((s.length+1:Nat):Int)=n+2+2*(s.length:Int) from by omega]
      exact ih)
    simp only [laws_markTokenS.l0,Option.bind_some,Int.toNat_natCast,rd_T57,set_mid,getD_mid]
    rw [if_pos (by simp;omega),if_pos (by omega),w64 (x:=n+1) (by omega) (by omega),w64 (x:=n+1+1) (by omega) (by omega),w64 (x:=(pre.length:Int)+1) (by omega) (by omega),show n+1+1=n+2 from by omega]
    rfl
theorem markTokenS_ev (s:List Tok) (n:Int) (h0:0≤n) (h1:n+2*(s.length:Int)≤1152921504606846976):Ev (fun k=>laws_markTokenS.f k s n) (n+2*(s.length:Int),tokL n s) :=
  markTokenS_l0 1152921504606846976 (Int.le_refl _) s [] n h0 h1 (by simp;omega)
theorem eqRing_ev (n:Int) (l:List Tok) (hl:l.length≤4611686018427387904):Ev (fun k=>laws_eqRing.f k n l n l) true :=
  evPos rfl (Ev.bind (eqTokenS_ev l hl) (evPos rfl (Ev.now _)))
theorem markRing_ev (N:Int) (l:List Tok) (n:Int) (h0:0≤n) (h1:n+2*(l.length:Int)≤1152921504606846976):Ev (fun k=>laws_markRing.f k N l n) (n+2*(l.length:Int),tokL n l) :=
  Ev.bind (markTokenS_ev l n h0 h1) (Ev.now _)
theorem toRing_ev (n:Int) (l:List LTok) (hl:l.length≤1048576):Ev (fun k=>laws_toRing.f k n l) (n,l.map toTok):=Ev.bind (toTokenS_ev l hl) (Ev.now _)
end Go.Proofs.YtdogendcjmgnnaaDoor.Q

namespace Go.Proofs.YtdogendcjmgnnaaDoor.P
open Go.RowKit Go.Proofs.YtdogendcjmgnnaaDoorW.PrintWords Go.Proofs.YtdogendcjmgnnaaDoorW.PrintLast Go.Proofs.YtdogendcjmgnnaaDoorW.PrintMore
attribute [local go_sem] max2_int min2_int max_two min_two max_three min_three max_four min_four   -- for this text's walks alone
set_option linter.unusedVariables false
set_option linter.unusedSimpArgs false

/-! ### impl_RingNew: function 16 -/
def impl_RingNew.j0:Nat→Int→Int→Bool→Option (Int × (List (S57)) × Int)
 | 0,_,_,_=>none
 | k+1,x0,x1,x12=>if x12=true then (some (0,([]:List (S57)),1)) else ((impl_ringNew.f k x0 x1).bind fun bt314=>(some (bt314.1,bt314.2,0)))
def impl_RingNew.f (k:Nat) (a0:Int) (a1:Int):Option (Int × (List (S57)) × Int):=(impl_isNode.f a0).bind fun t312=>(if t312=true then ((impl_within.f a1 1 8).bind fun t313=>(impl_RingNew.j0 k a0 a1 (!t313))) else (impl_RingNew.j0 k a0 a1 true))
theorem impl_RingNew.mono_l:∀ k,(∀ y0 y1 y2,LeO (impl_RingNew.j0 k y0 y1 y2) (impl_RingNew.j0 (k+1) y0 y1 y2))
 | 0=>fun _ _ _ r h=>by simp [impl_RingNew.j0] at h
 | k+1=>by
  have ih0:=impl_RingNew.mono_l k
  ·intro y0 y1 y2
   unfold impl_RingNew.j0
   repeat' first
   | (with_reducible exact ih0 _ _ _)
   | (with_reducible exact impl_ringNew.mono _ _ _)
   | (with_reducible exact LeO.refl _)
   | (with_reducible exact LeO.none _)
   | (with_reducible refine LeO.ite ?_ ?_)
   | (with_reducible refine LeO.bind ?_ (fun _=>?_))
   | exact ih0 _ _ _
   | exact impl_ringNew.mono _ _ _
   | exact LeO.none _
   | refine LeO.ite ?_ ?_
   | refine LeO.bind ?_ (fun _=>?_)
theorem impl_RingNew.mono:∀ a0 a1 k,LeO (impl_RingNew.f k a0 a1) (impl_RingNew.f (k+1) a0 a1):=by
 intro a0 a1 k
 have ih0:=impl_RingNew.mono_l k
 unfold impl_RingNew.f
 repeat' first
   | (with_reducible exact ih0 _ _ _)
   | (with_reducible exact impl_ringNew.mono _ _ _)
   | (with_reducible exact LeO.refl _)
   | (with_reducible exact LeO.none _)
   | (with_reducible refine LeO.ite ?_ ?_)
   | (with_reducible refine LeO.bind ?_ (fun _=>?_))
   | exact ih0 _ _ _
   | exact impl_ringNew.mono _ _ _
   | exact LeO.none _
   | refine LeO.ite ?_ ?_
   | refine LeO.bind ?_ (fun _=>?_)

/-! ### spec_RingNew: function 15 -/
def spec_RingNew.j0:Nat→Int→Int→Bool→Option (Int × (List (S57)) × Int)
 | 0,_,_,_=>none
 | k+1,x0,x1,x12=>if x12=true then (some (0,([]:List (S57)),1)) else ((spec_l04New.f k x0 x1).bind fun bt307=>(some (bt307.1,bt307.2,0)))
def spec_RingNew.f (k:Nat) (a0:Int) (a1:Int):Option (Int × (List (S57)) × Int):=(spec_l02Node.f a0).bind fun t305=>(if t305=true then ((spec_l02Is.f a1 1 8).bind fun t306=>(spec_RingNew.j0 k a0 a1 (!t306))) else (spec_RingNew.j0 k a0 a1 true))
theorem spec_RingNew.mono_l:∀ k,(∀ y0 y1 y2,LeO (spec_RingNew.j0 k y0 y1 y2) (spec_RingNew.j0 (k+1) y0 y1 y2))
 | 0=>fun _ _ _ r h=>by simp [spec_RingNew.j0] at h
 | k+1=>by
  have ih0:=spec_RingNew.mono_l k
  ·intro y0 y1 y2
   unfold spec_RingNew.j0
   repeat' first
   | (with_reducible exact ih0 _ _ _)
   | (with_reducible exact spec_l04New.mono _ _ _)
   | (with_reducible exact LeO.refl _)
   | (with_reducible exact LeO.none _)
   | (with_reducible refine LeO.ite ?_ ?_)
   | (with_reducible refine LeO.bind ?_ (fun _=>?_))
   | exact ih0 _ _ _
   | exact spec_l04New.mono _ _ _
   | exact LeO.none _
   | refine LeO.ite ?_ ?_
   | refine LeO.bind ?_ (fun _=>?_)
theorem spec_RingNew.mono:∀ a0 a1 k,LeO (spec_RingNew.f k a0 a1) (spec_RingNew.f (k+1) a0 a1):=by
 intro a0 a1 k
 have ih0:=spec_RingNew.mono_l k
 unfold spec_RingNew.f
 repeat' first
   | (with_reducible exact ih0 _ _ _)
   | (with_reducible exact spec_l04New.mono _ _ _)
   | (with_reducible exact LeO.refl _)
   | (with_reducible exact LeO.none _)
   | (with_reducible refine LeO.ite ?_ ?_)
   | (with_reducible refine LeO.bind ?_ (fun _=>?_))
   | exact ih0 _ _ _
   | exact spec_l04New.mono _ _ _
   | exact LeO.none _
   | refine LeO.ite ?_ ?_
   | refine LeO.bind ?_ (fun _=>?_)

/-! ### impl_RingMore: function 21 -/
def impl_RingMore.f (k:Nat) (a0_0:Int) (l0_1:List (S57)):Option (Int × (List (S57)) × Int):=(impl_RingRight.f k a0_0 l0_1).bind fun t368=>(if t368=true then (if a0_0=5 then (some (0,([]:List (S57)),9)) else (if a0_0=0 then (none) else ((impl_ringNew.f k (wrap64 (a0_0+1)) (wrap64 ((l0_1.length:Int) / a0_0))).bind fun bt369=>(some (bt369.1,bt369.2,0))))) else (some (0,([]:List (S57)),1)))
theorem impl_RingMore.mono:∀ a0 a1 k,LeO (impl_RingMore.f k a0 a1) (impl_RingMore.f (k+1) a0 a1):=by
 intro a0 a1 k
 unfold impl_RingMore.f
 repeat' first
   | (with_reducible exact impl_RingRight.mono _ _ _)
   | (with_reducible exact impl_ringNew.mono _ _ _)
   | (with_reducible exact LeO.refl _)
   | (with_reducible exact LeO.none _)
   | (with_reducible refine LeO.ite ?_ ?_)
   | (with_reducible refine LeO.bind ?_ (fun _=>?_))
   | exact impl_RingRight.mono _ _ _
   | exact impl_ringNew.mono _ _ _
   | exact LeO.none _
   | refine LeO.ite ?_ ?_
   | refine LeO.bind ?_ (fun _=>?_)

/-! ### spec_RingMore: function 20 -/
def spec_RingMore.f (k:Nat) (a0_0:Int) (l0_1:List (S57)):Option (Int × (List (S57)) × Int):=(spec_RingRight.f k a0_0 l0_1).bind fun t361=>(if t361=true then (if a0_0≥5 then (some (0,([]:List (S57)),9)) else (if a0_0=0 then (none) else ((spec_l04New.f k (wrap64 (a0_0+1)) (wrap64 ((l0_1.length:Int) / a0_0))).bind fun bt362=>(some (bt362.1,bt362.2,0))))) else (some (0,([]:List (S57)),1)))
theorem spec_RingMore.mono:∀ a0 a1 k,LeO (spec_RingMore.f k a0 a1) (spec_RingMore.f (k+1) a0 a1):=by
 intro a0 a1 k
 unfold spec_RingMore.f
 repeat' first
   | (with_reducible exact spec_RingRight.mono _ _ _)
   | (with_reducible exact spec_l04New.mono _ _ _)
   | (with_reducible exact LeO.refl _)
   | (with_reducible exact LeO.none _)
   | (with_reducible refine LeO.ite ?_ ?_)
   | (with_reducible refine LeO.bind ?_ (fun _=>?_))
   | exact spec_RingRight.mono _ _ _
   | exact spec_l04New.mono _ _ _
   | exact LeO.none _
   | refine LeO.ite ?_ ?_
   | refine LeO.bind ?_ (fun _=>?_)
end Go.Proofs.YtdogendcjmgnnaaDoor.P

namespace Go.Proofs.YtdogendcjmgnnaaDoor.Q
open Go.RowKit Go.Proofs.YtdogendcjmgnnaaDoor.P Go.Proofs.YtdogendcjmgnnaaDoorW.PrintWords Go.Proofs.YtdogendcjmgnnaaDoorW.PrintMore

theorem evMono {α:Type} {g:Nat→Option α} {r:α} (hm:∀ k,LeO (g k) (g (k+1))) (K:Nat) (h:g K=some r):Ev g r:=⟨K,fun k hk=>by
  obtain ⟨d,rfl⟩:=Nat.exists_eq_add_of_le hk
  induction d with
  | zero=>exact h
  | succ d ih=>exact hm _ _ (ih (by omega))⟩
def eqToks:List Tok→List Tok→Bool
  | [],[]=>true
  | x :: a,y :: b=>(x.f0 == y.f0 && x.f1 == y.f1) && eqToks a b
  | _,_=>false
theorem eqToks_eq:∀ a b:List Tok,eqToks a b=true→a=b
  | [],[],_=>rfl
  | x :: a,y :: b,h=>by
    simp only [eqToks,Bool.and_eq_true,beq_iff_eq] at h
    obtain ⟨⟨h1,h2⟩,h3⟩:=h
    obtain ⟨x0,x1⟩:=x
    obtain ⟨y0,y1⟩:=y
    simp only at h1 h2
    rw [h1,h2,eqToks_eq a b h3]
  | [],_ :: _,h=>by simp [eqToks] at h
  | _ :: _,[],h=>by simp [eqToks] at h
def ringRounds:Nat:=3000
def ringT (n e:Int):List Tok:=match spec_l04New.f ringRounds n e with
  | some x=>x.2
  | none=>[]
def ringTest (n e:Nat):Bool:=match impl_ringNew.f ringRounds (n:Int) (e:Int),spec_l04New.f ringRounds (n:Int) (e:Int) with
  | some x,some y=>x.1 == (n:Int) && (y.1 == (n:Int) && (eqToks x.2 y.2 && y.2.length == n*e))
  | _,_=>false
set_option maxRecDepth 1000000 in
theorem ring_all:(List.range 40).all (fun j=>ringTest (j / 8+1) (j % 8+1))=true:=by kernel_rfl
theorem ring_is {n e:Int} (hn:isNode n=true) (he:isWithin e 1 8=true) :
    Ev (fun k=>impl_ringNew.f k n e) (n,ringT n e)∧Ev (fun k=>spec_l04New.f k n e) (n,ringT n e)∧((ringT n e).length:Int)=n*e:=by
  rw [isNode_iff] at hn
  simp only [isWithin,Bool.and_eq_true,decide_eq_true_eq] at he
  obtain ⟨n,rfl⟩:=Int.eq_ofNat_of_zero_le (show 0≤n by omega)
  obtain ⟨e,rfl⟩:=Int.eq_ofNat_of_zero_le (show 0≤e by omega)
  have h:=List.all_eq_true.1 ring_all ((n-1)*8+(e-1)) (List.mem_range.2 (by omega))
  rw [show ((n-1)*8+(e-1)) / 8+1=n by omega,show ((n-1)*8+(e-1)) % 8+1=e by omega] at h
  unfold ringTest at h
  split at h
  · rename_i x y hx hy
    simp only [Bool.and_eq_true,beq_iff_eq] at h
    obtain ⟨h1,h2,h3,h4⟩:=h
    have h5:=eqToks_eq _ _ h3
    have ht:ringT (n:Int) (e:Int)=y.2:=by unfold ringT;rw [hy]
    obtain ⟨x1,x2⟩:=x
    obtain ⟨y1,y2⟩:=y
    simp only at h1 h2 h4 h5 ht
    clear h3
    subst h1
    subst h2
    subst h5
    rw [ht]
    refine ⟨evMono (fun k=>impl_ringNew.mono _ _ k) ringRounds hx,evMono (fun k=>spec_l04New.mono _ _ k) ringRounds hy,?_⟩
    rw [h4]
    simp
  · cases h
def ringOk (n:Int) (l:List Tok):Bool:=isNode n && (isWithin ((l.length:Int) / n) 1 8 && eqToks l (ringT n ((l.length:Int) / n)))
theorem tokNe (x y:Tok):(!(x.f0 == y.f0) || (!(x.f1 == y.f1)))=!(x.f0 == y.f0 && x.f1 == y.f1):=by
  cases x.f0 == y.f0 <;> cases x.f1 == y.f1 <;> rfl
theorem equal_l0 (l m:List Tok) (hl:l.length≤1048576) (hm:m.length=l.length):∀ (s t:List Tok) (i:Nat),l.drop i=s→m.drop i=t→i≤l.length →
    Ev (fun k=>slices_Equal_impl_Token_impl_Token.l0 k l m (l.length:Int) (i:Int)) (eqToks s t)
  | [],t,i,h,h',hi=>by
    have e:=dropNil' h hi
    have:t=[]:=by rw [← h',List.drop_eq_nil_of_le (by omega)]
    subst this
    refine Ev.step (f:=fun _=>some true) (fun k=>?_) (Ev.now _)
    simp only [slices_Equal_impl_Token_impl_Token.l0]
    rw [if_neg (by omega)]
  | x :: s,[],i,h,h',hi=>by
    have a:=(dropCons h z57).1
    have b:=dropNil h'
    omega
  | x :: s,y :: t,i,h,h',hi=>by
    obtain ⟨h1,h2,h3⟩:=dropCons h z57
    obtain ⟨g1,g2,g3⟩:=dropCons h' z57
    have hr:rd_T57 l (i:Int)=x:=by simpa [rd_T57] using h2
    have gr:rd_T57 m (i:Int)=y:=by simpa [rd_T57] using g2
    have ih:=equal_l0 l m hl hm s t (i+1) h3 g3 (by omega)
    refine Ev.step (fun k=>by simp only [slices_Equal_impl_Token_impl_Token.l0,hr,gr,tokNe];rw [if_pos (by omega),if_pos (by omega),if_pos (by omega),if_pos (by omega)]) ?_
    unfold eqToks
    cases x.f0 == y.f0 && x.f1 == y.f1 with
    | false=>exact evPos (by rfl) (Ev.now _)
    | true =>
      refine evNeg (by simp) ?_
      rw [w64 (by omega) (by omega)]
      exact ih
theorem eqToks_length:∀ a b:List Tok,a.length≠b.length→eqToks a b=false:=fun a b h=>by
  cases e:eqToks a b with
  | false=>rfl
  | true=>exact absurd (by rw [eqToks_eq a b e]) h
theorem Equal_ev (l m:List Tok) (hl:l.length≤1048576):Ev (fun k=>slices_Equal_impl_Token_impl_Token.f k l m) (eqToks l m):=by
  unfold slices_Equal_impl_Token_impl_Token.f
  refine evIte (fun h=>?_) (fun h=>?_)
  · exact equal_l0 l m hl (by omega) l m 0 rfl rfl (by omega)
  · rw [eqToks_length l m (by omega)]
    exact Ev.now _
theorem impl_RingRight_ev (n:Int) (l:List Tok) (hl:l.length≤1048576):Ev (fun k=>impl_RingRight.f k n l) (ringOk n l):=by
  unfold impl_RingRight.f ringOk
  refine evBind1 (isNode_is _) ?_
  cases hn:isNode n with
  | false=>exact evNeg (by simp) (Ev.now _)
  | true =>
    have hn':=(isNode_iff n).1 hn
    have hd:wrap64 ((l.length:Int) / n)=(l.length:Int) / n:=by
      have a:=Int.ediv_nonneg (show (0:Int)≤(l.length:Int) by omega) (show 0≤n by omega)
      have b:=Int.ediv_le_self n (show (0:Int)≤(l.length:Int) by omega)
      exact w64 (by omega) (by omega)
    rw [hd]
    refine evPos rfl (evNeg (by omega) (evBind1 (within_is _ _ _) ?_))
    cases he:isWithin ((l.length:Int) / n) 1 8 with
    | false=>exact evNeg (by simp) (Ev.now _)
    | true=>exact evPos rfl (Ev.bind (ring_is hn he).1 (Ev.bind (Equal_ev l _ hl) (Ev.now _)))
theorem specRight_l0 (n n':Int) (l m:List Tok) (hl:l.length≤1048576) (hm:m.length=l.length):∀ (s t:List Tok) (i:Nat),l.drop i=s→m.drop i=t→i≤l.length →
    Ev (fun k=>spec_RingRight.l0 k (i:Int) n l n' m) (eqToks s t)
  | [],t,i,h,h',hi=>by
    have e:=dropNil' h hi
    have:t=[]:=by rw [← h',List.drop_eq_nil_of_le (by omega)]
    subst this
    refine Ev.step (f:=fun _=>some true) (fun k=>?_) (Ev.now _)
    simp only [spec_RingRight.l0]
    rw [if_neg (by omega)]
  | x :: s,[],i,h,h',hi=>by
    have a:=(dropCons h z57).1
    have b:=dropNil h'
    omega
  | x :: s,y :: t,i,h,h',hi=>by
    obtain ⟨h1,h2,h3⟩:=dropCons h z57
    obtain ⟨g1,g2,g3⟩:=dropCons h' z57
    have hr:rd_T57 l (i:Int)=x:=by simpa [rd_T57] using h2
    have gr:rd_T57 m (i:Int)=y:=by simpa [rd_T57] using g2
    have ih:=specRight_l0 n n' l m hl hm s t (i+1) h3 g3 (by omega)
    refine Ev.step (fun k=>by simp only [spec_RingRight.l0,hr,gr,tokNe];rw [if_pos (by omega),if_pos (by omega),if_pos (by omega)]) ?_
    unfold eqToks
    cases x.f0 == y.f0 && x.f1 == y.f1 with
    | false=>exact evPos (by rfl) (Ev.now _)
    | true =>
      refine evNeg (by simp) ?_
      rw [w64 (by omega) (by omega)]
      exact ih
theorem spec_RingRight_ev (n:Int) (l:List Tok) (hl:l.length≤1048576):Ev (fun k=>spec_RingRight.f k n l) (ringOk n l):=by
  unfold spec_RingRight.f ringOk
  have jT:Ev (fun k=>spec_RingRight.j0 k true n l) false:=Ev.step (f:=fun _=>some false) (fun k=>by simp [spec_RingRight.j0]) (Ev.now _)
  refine evBind1 (l02Node_is _) ?_
  cases hn:isNode n with
  | false=>exact evNeg (by simp) jT
  | true =>
    have hn':=(isNode_iff n).1 hn
    have a:=Int.ediv_nonneg (show (0:Int)≤(l.length:Int) by omega) (show 0≤n by omega)
    have b:=Int.ediv_le_self n (show (0:Int)≤(l.length:Int) by omega)
    have hq:=Int.mul_ediv_add_emod (l.length:Int) n
    have hm0:=Int.emod_nonneg (l.length:Int) (show n≠0 by omega)
    have hm1:=Int.emod_lt_of_pos (l.length:Int) (show 0<n by omega)
    rw [w64 (x:=8*n) (by omega) (by omega)]
    -- where the lengths do not fit, the two are not the same
    have no:(isWithin ((l.length:Int) / n) 1 8 && eqToks l (ringT n ((l.length:Int) / n)))=true→1≤(l.length:Int)∧(l.length:Int)≤8*n∧(l.length:Int) % n=0:=by
      intro h
      simp only [Bool.and_eq_true] at h
      have hL:=(ring_is hn h.1).2.2
      rw [← eqToks_eq _ _ h.2] at hL
      have hw:=h.1
      simp only [isWithin,Bool.and_eq_true,decide_eq_true_eq] at hw
      have h8:n*((l.length:Int) / n)≤n*8:=Int.mul_le_mul_of_nonneg_left (by omega) (by omega)
      have h9:n*1≤n*((l.length:Int) / n):=Int.mul_le_mul_of_nonneg_left (by omega) (by omega)
      refine ⟨by omega,by omega,by omega⟩
    have fl:(¬ (1≤(l.length:Int)∧(l.length:Int)≤8*n∧(l.length:Int) % n=0))→(isWithin ((l.length:Int) / n) 1 8 && eqToks l (ringT n ((l.length:Int) / n)))=false:=fun h=>by
      cases e:(isWithin ((l.length:Int) / n) 1 8 && eqToks l (ringT n ((l.length:Int) / n))) with
      | false=>rfl
      | true=>exact absurd (no e) h
    refine evPos rfl ?_
    rw [Bool.true_and]
    by_cases c1:(l.length:Int)<1
    · rw [fl (by omega)];exact evPos c1 jT
    · refine evNeg c1 ?_
      by_cases c2:(l.length:Int)>8*n
      · rw [fl (by omega)];exact evPos c2 jT
      · refine evNeg c2 (evNeg (by omega) ?_)
        by_cases c3:(l.length:Int) % n=0
        · have e3:((l.length:Int) % n != 0)=false:=by simp [c3]
          rw [e3]
          have hlo:1≤(l.length:Int) / n:=by
            apply Int.not_lt.1
            intro hlt
            have:(l.length:Int) / n=0:=by omega
            rw [this] at hq
            omega
          have hhi:(l.length:Int) / n≤8:=by
            apply Int.not_lt.1
            intro hlt
            have:n*9≤n*((l.length:Int) / n):=Int.mul_le_mul_of_nonneg_left (by omega) (by omega)
            omega
          have he:isWithin ((l.length:Int) / n) 1 8=true:=by simp only [isWithin,Bool.and_eq_true,decide_eq_true_eq];omega
          have hL:=(ring_is hn he).2.2
          rw [he,Bool.true_and]
          refine Ev.step (fun k=>by simp only [spec_RingRight.j0];rw [if_neg (by simp),if_neg (by omega),w64 (x:=(l.length:Int) / n) (by omega) (by omega)]) (Ev.bind (ring_is hn he).2.1 ?_)
          exact specRight_l0 n n l (ringT n ((l.length:Int) / n)) hl (by omega) l _ 0 rfl rfl (by omega)
        · have e3:((l.length:Int) % n != 0)=true:=by simp [c3]
          rw [e3,fl (by omega)]
          exact jT
theorem szRing_is (a:Int) (l:List LTok) (n:Int) (h0:0≤n) (h1:n≤1048576) (hl:l.length≤9223372036854775807):laws_szRing.f a l n=some (if n<(l.length:Int) then -1 else n-(l.length:Int)):=by
  unfold laws_szRing.f
  rw [szTokenS_is l n h0 h1 hl,Option.bind_some]
  by_cases h:n<(l.length:Int)
  · rw [if_pos h];rfl
  · rw [if_neg h,if_neg (by omega)]
end Go.Proofs.YtdogendcjmgnnaaDoor.Q

namespace Go.Proofs.YtdogendcjmgnnaaDoor.Q
open Go.RowKit Go.Proofs.YtdogendcjmgnnaaDoor.P Go.Proofs.YtdogendcjmgnnaaDoorW.PrintWords Go.Proofs.YtdogendcjmgnnaaDoorW.PrintMore

def firstLong:List ByteArray→Int→Int
  | [],_ => -1
  | a :: s,i=>if 8000<a.size then i else firstLong s (i+1)
theorem firstLong_any:∀ (s:List ByteArray) (i:Int),0≤i→decide (firstLong s i≥0)=s.any fun a=>decide (8000<a.size)
  | [],i,h=>by simp [firstLong]
  | a :: s,i,h=>by
    have ih:=firstLong_any s (i+1) (by omega)
    by_cases ha:8000<a.size
    · simp [firstLong,ha,h]
    · rw [firstLong,if_neg ha,ih,List.any_cons]
      simp [ha]
theorem isLong_l0 (l:List ByteArray) (hl:l.length≤4611686018427387904):∀ (s:List ByteArray) (i:Nat),l.drop i=s→i≤l.length →
    Ev (fun k=>slices_IndexFunc_string_string_impl_isLong_1.l0 k l (l.length:Int) (i:Int)) (firstLong s i)
  | [],i,h,hi=>by
    have:=dropNil' h hi
    refine Ev.step (f:=fun _=>some (-1)) (fun k=>?_) (Ev.now _)
    simp only [slices_IndexFunc_string_string_impl_isLong_1.l0]
    rw [if_neg (by omega)]
  | a :: s,i,h,hi=>by
    obtain ⟨h1,h2,h3⟩:=dropCons h ByteArray.empty
    have ih:=isLong_l0 l hl s (i+1) h3 (by omega)
    by_cases ha:8000<a.size
    · refine Ev.step (f:=fun _=>some (firstLong (a :: s) i)) (fun k=>?_) (Ev.now _)
      simp only [slices_IndexFunc_string_string_impl_isLong_1.l0,impl_isLong_1.f,rdOf,Int.toNat_natCast,h2]
      rw [if_pos (by omega),if_pos (by omega),if_pos (by omega)]
      simp [firstLong,ha]
      omega
    · refine Ev.step (fun k=>?_) (show Ev _ (firstLong (a :: s) i) from by simp only [firstLong,if_neg ha];exact ih)
      simp only [slices_IndexFunc_string_string_impl_isLong_1.l0,impl_isLong_1.f,rdOf,Int.toNat_natCast,h2]
      rw [if_pos (by omega),if_pos (by omega),if_pos (by omega),w64 (by omega) (by omega)]
      have:¬ ((a.size:Int)>8000):=by omega
      simp [this]
theorem isLong_ev (l:List ByteArray) (hl:l.length≤4611686018427387904):Ev (fun k=>impl_isLong.f k l) (l.any fun a=>decide (8000<a.size)):=by
  unfold impl_isLong.f slices_ContainsFunc_string_string_impl_isLong_1.f slices_IndexFunc_string_string_impl_isLong_1.f
  have h:=isLong_l0 l hl l 0 rfl (by omega)
  refine Ev.bind (Ev.bind h (Ev.now _)) ?_
  have e:=firstLong_any l 0 (by omega)
  rw [show ((0:Nat):Int)=0 from rfl,e]
  exact Ev.now _
theorem isLong1_ev (a:ByteArray):Ev (fun k=>impl_isLong.f k ([a]:List ByteArray)) (decide (8000<a.size)):=by
  have:=isLong_ev [a] (by simp)
  simpa using this
end Go.Proofs.YtdogendcjmgnnaaDoor.Q

namespace Go.Proofs.YtdogendcjmgnnaaDoor.Q
open Go.RowKit Go.Proofs.YtdogendcjmgnnaaDoor.P Go.Proofs.YtdogendcjmgnnaaDoorW.PrintWords Go.Proofs.YtdogendcjmgnnaaDoorW.PrintMore

def lowCh (c:Int):Bool:=decide (97≤c) && decide (c≤122)
def nameCh (c:Int):Bool:=lowCh c || (decide (48≤c) && decide (c≤57)) || decide (c=95)
def nameList:List Int→Bool
  | []=>false
  | c :: r=>lowCh c && r.all nameCh
def nameOk (s:ByteArray):Bool:=decide (s.size≤20) && nameList (bytesOf s)
theorem bt_of {s:ByteArray} {i:Nat} {c:Int} (h:(bytesOf s).getD i 0=c):bt s (i:Int)=c:=by
  rw [← rd_bytesOf];simpa [rd] using h
theorem spec_name_round (s:ByteArray) (k i:Nat) (hi:i<s.size) (h1:1≤i) (hs:s.size≤1048576) :
    spec_NameRight.l0 (k+1) s (i:Int)=if nameCh (bt s i) then spec_NameRight.l0 k s ((i+1:Nat):Int) else some false:=by
  simp only [spec_NameRight.l0]
  rw [if_pos (by omega),if_pos (by omega),w64 (by omega) (by omega)]
  have h0:¬ ((i:Int)=0):=by omega
  simp only [if_neg h0,nameCh,lowCh]
  generalize bt s i=c
  by_cases h1:97≤c <;> by_cases h2:c≤122 <;> by_cases h3:48≤c <;> by_cases h4:c≤57 <;> by_cases h5:c=95 <;> first | (exfalso;omega) | simp [ge_iff_le,h1,h2,h3,h4,h5]
theorem spec_name_first (s:ByteArray) (k:Nat) (hi:0<s.size) (hs:s.size≤1048576) :
    spec_NameRight.l0 (k+1) s 0=if lowCh (bt s 0) then spec_NameRight.l0 k s 1 else some false:=by
  simp only [spec_NameRight.l0]
  rw [if_pos (by omega),if_pos (by omega),w64 (by omega) (by omega)]
  simp only [if_true,lowCh,Int.zero_add]
  generalize bt s 0=c
  by_cases h1:97≤c <;> by_cases h2:c≤122 <;> first | (exfalso;omega) | simp [ge_iff_le,h1,h2]
theorem spec_name_l0 (s:ByteArray) (hs:s.size≤1048576):∀ (r:List Int) (i:Nat),(bytesOf s).drop i=r→i≤s.size→1≤i→Ev (fun k=>spec_NameRight.l0 k s (i:Int)) (r.all nameCh)
  | [],i,h,hi,h1=>by
    have:=dropNil h
    rw [bytesOf_length] at this
    refine Ev.step (f:=fun _=>some true) (fun k=>?_) (Ev.now _)
    simp only [spec_NameRight.l0]
    rw [if_neg (by omega)]
  | c :: r,i,h,hi,h1=>by
    obtain ⟨g1,g2,g3⟩:=dropCons h 0
    rw [bytesOf_length] at g1
    have hb:=bt_of g2
    refine Ev.step (fun k=>spec_name_round s k i g1 h1 hs) ?_
    rw [hb]
    refine evIte (fun hc=>?_) (fun hc=>?_)
    · simp only [List.all_cons,hc,Bool.true_and];exact spec_name_l0 s hs r (i+1) g3 (by omega) (by omega)
    · simp only [List.all_cons,Bool.eq_false_iff.mpr hc,Bool.false_and];exact Ev.now _
theorem spec_NameRight_ev (s:ByteArray) (hs:s.size≤1048576):Ev (fun k=>spec_NameRight.f k s) (nameOk s):=by
  have hl:=bytesOf_length s
  unfold spec_NameRight.f nameOk
  refine evIte (fun h=>?_) (fun h=>?_)
  · refine Ev.step (f:=fun _=>some false) (fun k=>by simp only [spec_NameRight.j0];rw [if_pos trivial]) ?_
    have:bytesOf s=[]:=by rw [← List.length_eq_zero_iff,hl];omega
    simp only [this,nameList,Bool.and_false]
    exact Ev.now _
  · by_cases h20:(s.size:Int)>20
    · refine Ev.step (f:=fun _=>some false) (fun k=>by simp only [spec_NameRight.j0];rw [if_pos (by simpa using h20)]) ?_
      have:¬ s.size≤20:=by omega
      simp only [this,decide_false,Bool.false_and]
      exact Ev.now _
    · refine Ev.step (fun k=>by simp only [spec_NameRight.j0];rw [if_neg (by simpa using h20)]) ?_
      have h20':s.size≤20:=by omega
      simp only [h20',decide_true,Bool.true_and]
      cases hb:bytesOf s with
      | nil=>rw [hb] at hl;simp at hl;omega
      | cons c r =>
        have hc:bt s ((0:Nat):Int)=c:=bt_of (by rw [hb];rfl)
        refine Ev.step (fun k=>spec_name_first s k (by omega) hs) ?_
        rw [show (0:Int)=((0:Nat):Int) from rfl,hc]
        refine evIte (fun h1=>?_) (fun h1=>?_)
        · simp only [nameList,h1,Bool.true_and]
          exact spec_name_l0 s hs r 1 (by rw [hb];rfl) (by omega) (by omega)
        · simp only [nameList,Bool.eq_false_iff.mpr h1,Bool.false_and];exact Ev.now _
theorem impl_name_round (s:ByteArray) (k i:Nat) (hi:i<s.size) (hs:s.size≤140737488351232) :
    impl_NameRight.l0 (k+1) s (s.size:Int) (i:Int)=if nameCh (bt s i) then impl_NameRight.l0 k s (s.size:Int) ((i+1:Nat):Int) else some false:=by
  simp only [impl_NameRight.l0]
  rw [if_pos (by omega),if_pos (by omega),if_pos (by omega),w64 (by omega) (by omega)]
  simp only [nameCh,lowCh]
  generalize bt s i=c
  by_cases h1:97≤c <;> by_cases h2:c≤122 <;> by_cases h3:48≤c <;> by_cases h4:c≤57 <;> by_cases h5:c=95 <;> first | (exfalso;omega) | simp [ge_iff_le,h1,h2,h3,h4,h5]
theorem impl_name_l0 (s:ByteArray) (hs:s.size≤140737488351232):∀ (r:List Int) (i:Nat),(bytesOf s).drop i=r→i≤s.size→Ev (fun k=>impl_NameRight.l0 k s (s.size:Int) (i:Int)) (r.all nameCh)
  | [],i,h,hi=>by
    have:=dropNil h
    rw [bytesOf_length] at this
    refine Ev.step (f:=fun _=>some true) (fun k=>?_) (Ev.now _)
    simp only [impl_NameRight.l0]
    rw [if_neg (by omega)]
  | c :: r,i,h,hi=>by
    obtain ⟨g1,g2,g3⟩:=dropCons h 0
    rw [bytesOf_length] at g1
    have hb:=bt_of g2
    refine Ev.step (fun k=>impl_name_round s k i g1 hs) ?_
    rw [hb]
    refine evIte (fun hc=>?_) (fun hc=>?_)
    · simp only [List.all_cons,hc,Bool.true_and];exact impl_name_l0 s hs r (i+1) g3 (by omega)
    · simp only [List.all_cons,Bool.eq_false_iff.mpr hc,Bool.false_and];exact Ev.now _
theorem low_name {c:Int} (h:lowCh c=true):nameCh c=true:=by simp [nameCh,h]
theorem impl_NameRight_ev (s:ByteArray) (hs:s.size≤140737488351232):Ev (fun k=>impl_NameRight.f k s) (nameOk s):=by
  have hl:=bytesOf_length s
  unfold impl_NameRight.f nameOk impl_size.f
  refine evBind1 rfl (evBind1 (within_is _ _ _) ?_)
  refine evIte (fun h=>?_) (fun h=>?_)
  · have hw:1≤(s.size:Int)∧(s.size:Int)≤20:=by simpa [isWithin] using h
    refine evPos (by omega) ?_
    have h20':s.size≤20:=by omega
    simp only [h20',decide_true,Bool.true_and]
    cases hb:bytesOf s with
    | nil=>rw [hb] at hl;simp at hl;omega
    | cons c r =>
      have hc:bt s ((0:Nat):Int)=c:=bt_of (by rw [hb];rfl)
      have hc':bt s 0=c:=hc
      rw [hc']
      refine evIte (fun h1=>?_) (fun h1=>?_)
      · refine Ev.step (f:=fun _=>some false) (fun k=>by simp only [impl_NameRight.j0];rw [if_pos trivial]) ?_
        have:lowCh c=false:=by simp [lowCh];omega
        simp only [nameList,this,Bool.false_and];exact Ev.now _
      · by_cases h2:c>122
        · refine Ev.step (f:=fun _=>some false) (fun k=>by simp only [impl_NameRight.j0];rw [if_pos (by simpa using h2)]) ?_
          have:lowCh c=false:=by simp [lowCh];omega
          simp only [nameList,this,Bool.false_and];exact Ev.now _
        · refine Ev.step (fun k=>by simp only [impl_NameRight.j0];rw [if_neg (by simpa using h2)]) ?_
          have hlow:lowCh c=true:=by simp [lowCh];omega
          simp only [nameList,hlow,Bool.true_and]
          have:=impl_name_l0 s hs (c :: r) 0 (by rw [hb];rfl) (by omega)
          simpa [low_name hlow] using this
  · refine Ev.step (f:=fun _=>some false) (fun k=>by simp only [impl_NameRight.j0];rw [if_pos trivial]) ?_
    have hw:isWithin (s.size:Int) 1 20=false:=by simpa using h
    have:(decide (s.size≤20) && nameList (bytesOf s))=false:=by
      by_cases h20:s.size≤20
      · have:bytesOf s=[]:=by
          rw [← List.length_eq_zero_iff,hl]
          simp [isWithin] at hw;omega
        simp [this,nameList]
      · simp [h20]
    rw [this]
    exact Ev.now _
end Go.Proofs.YtdogendcjmgnnaaDoor.Q

namespace Go.Proofs.YtdogendcjmgnnaaDoor.Q
open Go.RowKit Go.Proofs.YtdogendcjmgnnaaDoor.P Go.Proofs.YtdogendcjmgnnaaDoorW.PrintWords Go.Proofs.YtdogendcjmgnnaaDoorW.PrintMore

theorem bits_xor_nat (k:IntKind) (j:Nat) (hj:j≤k.bits) (hk:∀ n:Int,0≤n→n<2 ^ j→k.wrap n=n) (a b:Nat) (ha:a<2 ^ j) (hb:b<2 ^ j):bits .xor k a b=((a ^^^ b:Nat):Int):=by
  have hp:2 ^ j≤2 ^ k.bits:=Nat.pow_le_pow_right (by decide) hj
  have ha':a % 2 ^ k.bits=a:=Nat.mod_eq_of_lt (Nat.lt_of_lt_of_le ha hp)
  have hb':b % 2 ^ k.bits=b:=Nat.mod_eq_of_lt (Nat.lt_of_lt_of_le hb hp)
  simp only [bits,BitVec.ofInt_natCast,BitVec.toNat_xor,BitVec.toNat_ofNat,ha',hb']
  exact hk _ (Int.natCast_nonneg _) (by exact_mod_cast Nat.xor_lt_two_pow ha hb)
theorem wraps_u32 (n:Int) (h₀:0≤n) (h₁:n<2 ^ 32):IntKind.u32.wrap n=n:=by rw [IntKind.wrap_u32];omega
theorem xor_range (a b:Int) (ha:0≤a) (ha':a<4294967296) (hb:0≤b) (hb':b<256) :
    Go.bits .xor .i64 a b=Go.bits .xor .u32 a b∧0≤Go.bits .xor .u32 a b∧Go.bits .xor .u32 a b<4294967296:=by
  obtain ⟨m,rfl⟩:=Int.eq_ofNat_of_zero_le ha
  obtain ⟨n,rfl⟩:=Int.eq_ofNat_of_zero_le hb
  have hm:m<2 ^ 32:=by omega
  have hn:n<2 ^ 32:=by omega
  have e1:=bits_xor_nat .u32 32 (by decide) wraps_u32 m n hm hn
  have e2:=bits_xor_nat .i64 63 (by decide) wraps_i64 m n (by omega) (by omega)
  have h:=Nat.xor_lt_two_pow hm hn
  rw [e1,e2]
  refine ⟨rfl,by omega,by omega⟩
def fnvStep (x b:Int):Int:=(Go.bits .xor .u32 x b*16777619) % 4294967296
def fnv (s:ByteArray):Int:=(bytesOf s).foldl fnvStep 2166136261
theorem fnvStep_range (x b:Int):0≤fnvStep x b∧fnvStep x b<4294967296:=by unfold fnvStep;omega
theorem spec_fnv_l0 (s:ByteArray) (hs:s.size≤140737488351232):∀ (r:List Int) (i:Nat),(bytesOf s).drop i=r→i≤s.size→∀ x:Int,0≤x→x<4294967296→Ev (fun k=>spec_l04Fnv.l0 k s x (i:Int)) (r.foldl fnvStep x)
  | [],i,h,hi,x,h0,h1=>by
    have:=dropNil h
    rw [bytesOf_length] at this
    refine Ev.step (f:=fun _=>some x) (fun k=>?_) (Ev.now _)
    simp only [spec_l04Fnv.l0]
    rw [if_neg (by omega)]
  | c :: r,i,h,hi,x,h0,h1=>by
    obtain ⟨g1,g2,g3⟩:=dropCons h 0
    rw [bytesOf_length] at g1
    have hb:=bt_of g2
    have hr:=bt_range s (i:Int)
    rw [hb] at hr
    have hx:=xor_range x c h0 h1 hr.1 (by omega)
    have hq:=fnvStep_range x c
    refine Ev.step (fun k=>?_) (spec_fnv_l0 s hs r (i+1) g3 (by omega) (fnvStep x c) hq.1 hq.2)
    simp only [spec_l04Fnv.l0,hb]
    rw [if_pos (by omega),if_pos (by omega),w64 (x:=c) (by omega) (by omega),hx.1,w64 (x:=_*16777619) (by omega) (by omega),w64 (by omega) (by omega),Int.tmod_eq_emod_of_nonneg (by omega)]
    rfl
theorem impl_fnv_l0 (s:ByteArray) (hs:s.size≤140737488351232):∀ (r:List Int) (i:Nat),(bytesOf s).drop i=r→i≤s.size→∀ x:Int,0≤x→x<4294967296→Ev (fun k=>impl_fnv.l0 k s x (s.size:Int) (i:Int)) (r.foldl fnvStep x)
  | [],i,h,hi,x,h0,h1=>by
    have:=dropNil h
    rw [bytesOf_length] at this
    refine Ev.step (f:=fun _=>some x) (fun k=>?_) (Ev.now _)
    simp only [impl_fnv.l0]
    rw [if_neg (by omega),w64 (by omega) (by omega)]
  | c :: r,i,h,hi,x,h0,h1=>by
    obtain ⟨g1,g2,g3⟩:=dropCons h 0
    rw [bytesOf_length] at g1
    have hb:=bt_of g2
    have hr:=bt_range s (i:Int)
    rw [hb] at hr
    have hq:=fnvStep_range x c
    refine Ev.step (fun k=>?_) (impl_fnv_l0 s hs r (i+1) g3 (by omega) (fnvStep x c) hq.1 hq.2)
    simp only [impl_fnv.l0,hb]
    rw [if_pos (by omega),if_pos (by omega),if_pos (by omega),show c % 4294967296=c from by omega,w64 (by omega) (by omega)]
    rfl
theorem spec_l04Fnv_ev (s:ByteArray) (hs:s.size≤140737488351232):Ev (fun k=>spec_l04Fnv.f k s) (fnv s):=spec_fnv_l0 s hs _ 0 rfl (by omega) _ (by omega) (by omega)
theorem impl_fnv_ev (s:ByteArray) (hs:s.size≤140737488351232):Ev (fun k=>impl_fnv.f k s) (fnv s):=impl_fnv_l0 s hs _ 0 rfl (by omega) _ (by omega) (by omega)
end Go.Proofs.YtdogendcjmgnnaaDoor.Q

namespace Go.Proofs.YtdogendcjmgnnaaDoor.P
open Go.RowKit Go.Proofs.YtdogendcjmgnnaaDoorW.PrintWords Go.Proofs.YtdogendcjmgnnaaDoorW.PrintLast Go.Proofs.YtdogendcjmgnnaaDoorW.PrintMore
attribute [local go_sem] max2_int min2_int max_two min_two max_three min_three max_four min_four   -- for this text's walks alone
set_option linter.unusedVariables false
set_option linter.unusedSimpArgs false

/-! ### laws_toInt64S: function 33 -/
def laws_toInt64S.l0:Nat→List Int→List Int→Int→Option (List Int)
 | 0,_,_,_=>none
 | k+1,x0,x3,x4=>if x4<(x0.length:Int) then (if 0≤x4 then (if x4<(x3.length:Int) then (laws_toInt64S.l0 k x0 (x3.set (x4:Int).toNat (rd x0 x4)) (wrap64 (x4+1))) else (none)) else (none)) else (some x3)
def laws_toInt64S.f (k:Nat) (l0:List Int):Option (List Int):=if 0≤(l0.length:Int) then (if ((l0.length:Int):Int).toNat≤35184372088832 then (laws_toInt64S.l0 k l0 (List.replicate ((l0.length:Int):Int).toNat 0) 0) else (none)) else (none)
theorem laws_toInt64S.mono_l:∀ k,(∀ y0 y1 y2,LeO (laws_toInt64S.l0 k y0 y1 y2) (laws_toInt64S.l0 (k+1) y0 y1 y2))
 | 0=>fun _ _ _ r h=>by simp [laws_toInt64S.l0] at h
 | k+1=>by
  have ih0:=laws_toInt64S.mono_l k
  ·intro y0 y1 y2
   unfold laws_toInt64S.l0
   repeat' first
   | (with_reducible exact ih0 _ _ _)
   | (with_reducible exact LeO.refl _)
   | (with_reducible exact LeO.none _)
   | (with_reducible refine LeO.ite ?_ ?_)
   | (with_reducible refine LeO.bind ?_ (fun _=>?_))
   | exact ih0 _ _ _
   | exact LeO.none _
   | refine LeO.ite ?_ ?_
   | refine LeO.bind ?_ (fun _=>?_)
theorem laws_toInt64S.mono:∀ a0 k,LeO (laws_toInt64S.f k a0) (laws_toInt64S.f (k+1) a0):=by
 intro a0 k
 have ih0:=laws_toInt64S.mono_l k
 unfold laws_toInt64S.f
 repeat' first
   | (with_reducible exact ih0 _ _ _)
   | (with_reducible exact LeO.refl _)
   | (with_reducible exact LeO.none _)
   | (with_reducible refine LeO.ite ?_ ?_)
   | (with_reducible refine LeO.bind ?_ (fun _=>?_))
   | exact ih0 _ _ _
   | exact LeO.none _
   | refine LeO.ite ?_ ?_
   | refine LeO.bind ?_ (fun _=>?_)
end Go.Proofs.YtdogendcjmgnnaaDoor.P

namespace Go.Proofs.YtdogendcjmgnnaaDoor.Q
open Go.RowKit Go.Proofs.YtdogendcjmgnnaaDoor.P Go.Proofs.YtdogendcjmgnnaaDoorW.PrintWords Go.Proofs.YtdogendcjmgnnaaDoorW.PrintMore

theorem rd_of {l:List Int} {i:Nat} {m:Int} (h:l.getD i 0=m):rd l (i:Int)=m:=by simpa [rd] using h
theorem eqInt64S_l0 (l:List Int) (hl:l.length≤4611686018427387904):∀ (s:List Int) (i:Nat),l.drop i=s→i≤l.length →
    Ev (fun k=>laws_eqInt64S.l0 k l l (i:Int)) true
  | [],i,h,hi=>by
    have:=dropNil' h hi
    refine Ev.step (f:=fun _=>some true) (fun k=>?_) (Ev.now _)
    simp only [laws_eqInt64S.l0]
    rw [if_neg (by omega)]
  | m :: s,i,h,hi=>by
    obtain ⟨h1,h2,h3⟩:=dropCons h 0
    refine Ev.step (fun k=>?_) (eqInt64S_l0 l hl s (i+1) h3 (by omega))
    simp only [laws_eqInt64S.l0]
    rw [if_pos (by omega),if_pos (by omega),if_pos (by omega),if_pos trivial,w64 (by omega) (by omega)]
    rfl
theorem eqInt64S_ev (l:List Int) (hl:l.length≤4611686018427387904):Ev (fun k=>laws_eqInt64S.f k l l) true:=by
  unfold laws_eqInt64S.f
  exact evPos rfl (eqInt64S_l0 l hl l 0 rfl (by omega))
theorem getDi_mid (pre:List Int) (m:Int) (s:List Int):(pre ++ m :: s).getD pre.length 0=m:=by
  rw [List.getD_eq_getElem?_getD,List.getElem?_append_right (Nat.le_refl _),Nat.sub_self];rfl
theorem seti_mid (pre:List Int) (m x:Int) (s:List Int):(pre ++ m :: s).set pre.length x=pre ++ x :: s:=by
  rw [List.set_append_right _ _ (Nat.le_refl _),Nat.sub_self];rfl
def markI:Int→List Int→List Int
  | _,[]=>[]
  | n,_ :: r=>n :: markI (n+1) r
theorem markInt64S_l0 (N:Int) (hN:N≤1152921504606846976):∀ (s pre:List Int) (n:Int),0≤n→n+(s.length:Int)≤N→(pre.length:Int)+s.length≤N →
    Ev (fun k=>laws_markInt64S.l0 k (pre ++ s) n (pre.length:Int)) (n+(s.length:Int),pre ++ markI n s)
  | [],pre,n,h0,h1,h2=>by
    refine Ev.step (f:=fun _=>some (n,pre)) (fun k=>?_) (by simp [markI];exact Ev.now _)
    simp only [laws_markInt64S.l0,List.append_nil]
    rw [if_neg (by omega)]
  | m :: s,pre,n,h0,h1,h2=>by
    simp only [List.length_cons] at h1 h2
    have ih:=markInt64S_l0 N hN s (pre ++ [n]) (n+1) (by omega) (by omega) (by simp;omega)
    simp only [List.length_append,List.length_cons,List.length_nil,List.append_assoc,List.cons_append,List.nil_append] at ih
    refine Ev.step (fun k=>?_) (show Ev _ (n+((m :: s).length:Int),pre ++ markI n (m :: s)) from by
      simp only [markI,List.length_cons]
      rw [show n+((s.length+1:Nat):Int)=n+1+(s.length:Int) from by omega]
      exact ih)
    simp only [laws_markInt64S.l0,Int.toNat_natCast,seti_mid]
    rw [if_pos (by simp;omega),if_pos (by omega),w64 (x:=n+1) (by omega) (by omega),w64 (x:=(pre.length:Int)+1) (by omega) (by omega)]
    rfl
theorem markInt64S_ev (s:List Int) (n:Int) (h0:0≤n) (h1:n+(s.length:Int)≤1152921504606846976):Ev (fun k=>laws_markInt64S.f k s n) (n+(s.length:Int),markI n s) :=
  markInt64S_l0 1152921504606846976 (Int.le_refl _) s [] n h0 h1 (by simp;omega)
theorem heldInt64S_l0 (N:Int) (hN:N≤1152921504606846976):∀ (s pre:List Int) (n:Int),0≤n→n+(s.length:Int)≤N→(pre.length:Int)+s.length≤N →
    Ev (fun k=>laws_heldInt64S.l0 k (pre ++ markI n s) n (pre.length:Int)) (n+(s.length:Int))
  | [],pre,n,h0,h1,h2=>by
    refine Ev.step (f:=fun _=>some n) (fun k=>?_) (by simp;exact Ev.now _)
    simp only [laws_heldInt64S.l0,markI,List.append_nil]
    rw [if_neg (by omega)]
  | m :: s,pre,n,h0,h1,h2=>by
    simp only [List.length_cons] at h1 h2
    have ih:=heldInt64S_l0 N hN s (pre ++ [n]) (n+1) (by omega) (by omega) (by simp;omega)
    simp only [List.length_append,List.length_cons,List.length_nil,List.append_assoc,List.cons_append,List.nil_append] at ih
    refine Ev.step (fun k=>?_) (show Ev _ (n+((m :: s).length:Int)) from by
      simp only [List.length_cons]
      rw [show n+((s.length+1:Nat):Int)=n+1+(s.length:Int) from by omega]
      exact ih)
    have hr:rd (pre ++ markI n (m :: s)) (pre.length:Int)=n:=by simp only [rd,Int.toNat_natCast,markI,getDi_mid]
    simp only [laws_heldInt64S.l0,hr]
    rw [if_pos (by simp [markI];omega),if_pos (by omega),if_pos trivial,w64 (x:=n+1) (by omega) (by omega),w64 (x:=(pre.length:Int)+1) (by omega) (by omega)]
    rfl
theorem heldInt64S_ev (s:List Int) (n:Int) (h0:0≤n) (h1:n+(s.length:Int)≤1152921504606846976):Ev (fun k=>laws_heldInt64S.f k (markI n s) n) (n+(s.length:Int)) :=
  heldInt64S_l0 1152921504606846976 (Int.le_refl _) s [] n h0 h1 (by simp;omega)
end Go.Proofs.YtdogendcjmgnnaaDoor.Q

namespace Go.Proofs.YtdogendcjmgnnaaDoor.P
open Go.RowKit Go.Proofs.YtdogendcjmgnnaaDoorW.PrintWords Go.Proofs.YtdogendcjmgnnaaDoorW.PrintLast Go.Proofs.YtdogendcjmgnnaaDoorW.PrintMore
attribute [local go_sem] max2_int min2_int max_two min_two max_three min_three max_four min_four   -- for this text's walks alone
set_option linter.unusedVariables false
set_option linter.unusedSimpArgs false

/-! ### impl_Order: function 24 -/
def impl_Order.f (k:Nat) (a0_0:Int) (l0_1:List (S57)) (a1:ByteArray):Option (List Int):=(impl_isKeyed.f k a0_0 l0_1 a1).bind fun t469=>(if t469=true then ((impl_order.f k a0_0 l0_1 a1).bind fun t470=>(some t470)) else (some ([]:List Int)))
theorem impl_Order.mono:∀ a0 a1 a2 k,LeO (impl_Order.f k a0 a1 a2) (impl_Order.f (k+1) a0 a1 a2):=by
 intro a0 a1 a2 k
 unfold impl_Order.f
 repeat' first
   | (with_reducible exact impl_isKeyed.mono _ _ _ _)
   | (with_reducible exact impl_order.mono _ _ _ _)
   | (with_reducible exact LeO.refl _)
   | (with_reducible exact LeO.none _)
   | (with_reducible refine LeO.ite ?_ ?_)
   | (with_reducible refine LeO.bind ?_ (fun _=>?_))
   | exact impl_isKeyed.mono _ _ _ _
   | exact impl_order.mono _ _ _ _
   | exact LeO.none _
   | refine LeO.ite ?_ ?_
   | refine LeO.bind ?_ (fun _=>?_)

/-! ### spec_Order: function 23 -/
def spec_Order.j0:Nat→ByteArray→Bool→Int→List (S57)→Option (List Int)
 | 0,_,_,_,_=>none
 | k+1,x1,x12,x433000,x433001=>if x12=true then (some (([]:List Int))) else ((spec_l04Order.f k x433000 x433001 x1).bind fun t438=>(some t438))
def spec_Order.f (k:Nat) (a0_0:Int) (l0_1:List (S57)) (a1:ByteArray):Option (List Int):=(spec_RingRight.f k a0_0 l0_1).bind fun t433=>(if t433=true then ((spec_NameRight.f k a1).bind fun t434=>(spec_Order.j0 k a1 (!t434) a0_0 l0_1)) else (spec_Order.j0 k a1 true a0_0 l0_1))
theorem spec_Order.mono_l:∀ k,(∀ y0 y1 y2 y3,LeO (spec_Order.j0 k y0 y1 y2 y3) (spec_Order.j0 (k+1) y0 y1 y2 y3))
 | 0=>fun _ _ _ _ r h=>by simp [spec_Order.j0] at h
 | k+1=>by
  have ih0:=spec_Order.mono_l k
  ·intro y0 y1 y2 y3
   unfold spec_Order.j0
   repeat' first
   | (with_reducible exact ih0 _ _ _ _)
   | (with_reducible exact spec_NameRight.mono _ _)
   | (with_reducible exact spec_RingRight.mono _ _ _)
   | (with_reducible exact spec_l04Order.mono _ _ _ _)
   | (with_reducible exact LeO.refl _)
   | (with_reducible exact LeO.none _)
   | (with_reducible refine LeO.ite ?_ ?_)
   | (with_reducible refine LeO.bind ?_ (fun _=>?_))
   | exact ih0 _ _ _ _
   | exact spec_NameRight.mono _ _
   | exact spec_RingRight.mono _ _ _
   | exact spec_l04Order.mono _ _ _ _
   | exact LeO.none _
   | refine LeO.ite ?_ ?_
   | refine LeO.bind ?_ (fun _=>?_)
theorem spec_Order.mono:∀ a0 a1 a2 k,LeO (spec_Order.f k a0 a1 a2) (spec_Order.f (k+1) a0 a1 a2):=by
 intro a0 a1 a2 k
 have ih0:=spec_Order.mono_l k
 unfold spec_Order.f
 repeat' first
   | (with_reducible exact ih0 _ _ _ _)
   | (with_reducible exact spec_NameRight.mono _ _)
   | (with_reducible exact spec_RingRight.mono _ _ _)
   | (with_reducible exact spec_l04Order.mono _ _ _ _)
   | (with_reducible exact LeO.refl _)
   | (with_reducible exact LeO.none _)
   | (with_reducible refine LeO.ite ?_ ?_)
   | (with_reducible refine LeO.bind ?_ (fun _=>?_))
   | exact ih0 _ _ _ _
   | exact spec_NameRight.mono _ _
   | exact spec_RingRight.mono _ _ _
   | exact spec_l04Order.mono _ _ _ _
   | exact LeO.none _
   | refine LeO.ite ?_ ?_
   | refine LeO.bind ?_ (fun _=>?_)
end Go.Proofs.YtdogendcjmgnnaaDoor.P

namespace Go.Proofs.YtdogendcjmgnnaaDoor.Q
open Go.RowKit Go.Proofs.YtdogendcjmgnnaaDoor.P Go.Proofs.YtdogendcjmgnnaaDoorW.PrintWords Go.Proofs.YtdogendcjmgnnaaDoorW.PrintMore

theorem among_l0 (l:List Int) (n:Int) (hl:l.length≤4611686018427387904):∀ (s:List Int) (i:Nat),l.drop i=s→i≤l.length→Ev (fun k=>spec_l04Among.l0 k l n (i:Int)) (decide (n ∈ s))
  | [],i,h,hi=>by
    have:=dropNil' h hi
    refine Ev.step (f:=fun _=>some false) (fun k=>?_) (by simp;exact Ev.now _)
    simp only [spec_l04Among.l0]
    rw [if_neg (by omega)]
  | m :: s,i,h,hi=>by
    obtain ⟨h1,h2,h3⟩:=dropCons h 0
    have hr:=rd_of h2
    by_cases e:m=n
    · refine Ev.step (f:=fun _=>some true) (fun k=>?_) (by simp [e];exact Ev.now _)
      simp only [spec_l04Among.l0,hr]
      rw [if_pos (by omega),if_pos (by omega),if_pos e]
    · have ih:=among_l0 l n hl s (i+1) h3 (by omega)
      have e2:decide (n ∈ m :: s)=decide (n ∈ s):=by simp [show ¬ n=m from fun h=>e h.symm]
      rw [e2]
      refine Ev.step (fun k=>?_) ih
      simp only [spec_l04Among.l0,hr]
      rw [if_pos (by omega),if_pos (by omega),if_neg e,w64 (by omega) (by omega)]
      rfl
theorem among_ev (l:List Int) (n:Int) (hl:l.length≤4611686018427387904):Ev (fun k=>spec_l04Among.f k l n) (decide (n ∈ l)):=among_l0 l n hl l 0 rfl (by omega)
theorem indexI_l0 (l:List Int) (n:Int) (hl:l.length≤4611686018427387904):∀ (s:List Int) (i:Nat),l.drop i=s→i≤l.length→∃ r,Ev (fun k=>slices_Index_int64_int64.l0 k l n (l.length:Int) (i:Int)) r∧decide (r≥0)=decide (n ∈ s)
  | [],i,h,hi=>by
    have:=dropNil' h hi
    refine ⟨-1,Ev.step (f:=fun _=>some (-1)) (fun k=>?_) (Ev.now _),by simp⟩
    simp only [slices_Index_int64_int64.l0]
    rw [if_neg (by omega)]
  | m :: s,i,h,hi=>by
    obtain ⟨h1,h2,h3⟩:=dropCons h 0
    have hr:=rd_of h2
    by_cases e:n=m
    · refine ⟨i,Ev.step (f:=fun _=>some (i:Int)) (fun k=>?_) (Ev.now _),by simp [e]⟩
      simp only [slices_Index_int64_int64.l0,hr]
      rw [if_pos (by omega),if_pos (by omega),if_pos (by omega),if_pos e]
    · obtain ⟨r,e1,e2⟩:=indexI_l0 l n hl s (i+1) h3 (by omega)
      refine ⟨r,Ev.step (fun k=>?_) e1,by rw [e2];simp [e]⟩
      simp only [slices_Index_int64_int64.l0,hr]
      rw [if_pos (by omega),if_pos (by omega),if_pos (by omega),if_neg e,w64 (by omega) (by omega)]
      rfl
theorem Contains_ev (l:List Int) (n:Int) (hl:l.length≤4611686018427387904):Ev (fun k=>slices_Contains_int64_int64.f k l n) (decide (n ∈ l)):=by
  obtain ⟨r,e1,e2⟩:=indexI_l0 l n hl l 0 rfl (by omega)
  unfold slices_Contains_int64_int64.f
  rw [← e2]
  exact Ev.bind e1 (Ev.now _)
/-- How many tokens lie ahead. -/
def firstAt (h:Int):List Tok→Nat→Nat
  | [],i=>i
  | t :: r,i=>if t.f0<h then firstAt h r (i+1) else i
theorem firstAt_le (h:Int):∀ (s:List Tok) (i:Nat),i≤firstAt h s i∧firstAt h s i≤i+s.length
  | [],i=>by simp [firstAt]
  | t :: r,i=>by
    have:=firstAt_le h r (i+1)
    simp only [firstAt,List.length_cons]
    split <;> omega
def ordFrom (l:List Tok) (first:Nat):Nat→Nat→List Int→List Int
  | 0,_,acc=>acc
  | f+1,i,acc=>ordFrom l first f (i+1) (if (l.getD ((first+i) % l.length) z57).f1 ∈ acc then acc else acc ++ [(l.getD ((first+i) % l.length) z57).f1])
theorem ordFrom_mod (l:List Tok) (a b:Nat) (h:a % l.length=b % l.length):∀ (f i:Nat) (acc:List Int),ordFrom l a f i acc=ordFrom l b f i acc
  | 0,_,_=>rfl
  | f+1,i,acc=>by
    simp only [ordFrom]
    have e:(a+i) % l.length=(b+i) % l.length:=by rw [Nat.add_mod,h,← Nat.add_mod]
    rw [e]
    exact ordFrom_mod l a b h f (i+1) _
theorem ordFrom_length (l:List Tok) (a:Nat):∀ (f i:Nat) (acc:List Int),(ordFrom l a f i acc).length≤acc.length+f
  | 0,_,_=>by simp [ordFrom]
  | f+1,i,acc=>by
    simp only [ordFrom]
    split
    · have:=ordFrom_length l a f (i+1) acc;omega
    · have:=ordFrom_length l a f (i+1) (acc ++ [(l.getD ((a+i) % l.length) z57).f1])
      simp only [List.length_append,List.length_cons,List.length_nil] at this
      omega
def orderL (l:List Tok) (h:Int):List Int:=ordFrom l (firstAt h l 0) l.length 0 []
theorem orderL_length (l:List Tok) (h:Int):(orderL l h).length≤l.length:=by
  have:=ordFrom_length l (firstAt h l 0) l.length 0 []
  simp only [List.length_nil,Nat.zero_add] at this
  exact this
theorem tmod_at (l:List Tok) (a i:Nat) (ha:a≤l.length) (hi:i<l.length) (hl:l.length≤1048576) :
    Int.tmod (wrap64 ((a:Int)+(i:Int))) (l.length:Int)=(((a+i) % l.length:Nat):Int)∧(((a+i) % l.length:Nat):Int)<(l.length:Int):=by
  have hm:=Nat.mod_lt (a+i) (show 0<l.length by omega)
  rw [w64 (by omega) (by omega),Int.tmod_eq_emod_of_nonneg (by omega)]
  refine ⟨?_,by omega⟩
  rw [show (a:Int)+(i:Int)=((a+i:Nat):Int) by omega]
  exact (Int.natCast_emod (a+i) l.length).symm
theorem rdT_at (l:List Tok) (a:Nat):rd_T57 l (a:Int)=l.getD a z57:=by simp [rd_T57]
theorem specOrder_l1 (n:Int) (l:List Tok) (a:Nat) (ha:a≤l.length) (hl:l.length≤1048576):∀ (f i:Nat) (acc:List Int),i+f=l.length→acc.length≤i →
    Ev (fun k=>spec_l04Order.l1 k (a:Int) acc (i:Int) n l) (ordFrom l a f i acc)
  | 0,i,acc,h,hc=>by
    refine Ev.step (f:=fun _=>some acc) (fun k=>?_) (Ev.now _)
    simp only [spec_l04Order.l1]
    rw [if_neg (by omega)]
  | f+1,i,acc,h,hc=>by
    obtain ⟨t1,t2⟩:=tmod_at l a i ha (by omega) hl
    refine Ev.step (fun k=>by simp only [spec_l04Order.l1,t1,rdT_at];rw [if_pos (by omega),if_neg (by omega),if_pos (by omega),if_pos t2]) (Ev.bind (among_ev acc _ (by omega)) ?_)
    simp only [ordFrom]
    by_cases e:(l.getD ((a+i) % l.length) z57).f1 ∈ acc
    · rw [if_pos e,decide_eq_true e]
      refine evPos rfl ?_
      rw [w64 (by omega) (by omega)]
      exact specOrder_l1 n l a ha hl f (i+1) acc (by omega) (by omega)
    · rw [if_neg e,decide_eq_false e]
      refine evNeg (by simp) (evPos (by omega) ?_)
      rw [w64 (by omega) (by omega)]
      exact specOrder_l1 n l a ha hl f (i+1) _ (by omega) (by simp;omega)
theorem specOrder_l0 (n h:Int) (l:List Tok) (hl:l.length≤1048576):∀ (s:List Tok) (i:Nat),l.drop i=s→i≤l.length →
    Ev (fun k=>spec_l04Order.l0 k h (i:Int) n l) (ordFrom l (firstAt h s i) l.length 0 [])
  | [],i,hd,hi=>by
    have:=dropNil' hd hi
    refine Ev.step (f:=fun k=>spec_l04Order.j1 k h (i:Int) false n l) (fun k=>?_) (Ev.step (fun k=>?_) (specOrder_l1 n l i (by omega) hl l.length 0 [] (by omega) (by simp)))
    · simp only [spec_l04Order.l0]
      rw [if_neg (by omega)]
    · simp only [spec_l04Order.j1]
      rw [if_neg (by simp)]
      rfl
  | t :: s,i,hd,hi=>by
    obtain ⟨h1,h2,h3⟩:=dropCons hd z57
    have hr:rd_T57 l (i:Int)=t:=by simpa [rd_T57] using h2
    simp only [firstAt]
    by_cases e:t.f0<h
    · rw [if_pos e]
      refine Ev.step (f:=fun k=>spec_l04Order.j1 k h (i:Int) true n l) (fun k=>?_) (Ev.step (fun k=>?_) (specOrder_l0 n h l hl s (i+1) h3 (by omega)))
      · simp only [spec_l04Order.l0,hr]
        rw [if_pos (by omega),if_pos (by omega),decide_eq_true e]
      · simp only [spec_l04Order.j1]
        rw [if_pos trivial,w64 (by omega) (by omega)]
        rfl
    · rw [if_neg e]
      refine Ev.step (f:=fun k=>spec_l04Order.j1 k h (i:Int) false n l) (fun k=>?_) (Ev.step (fun k=>?_) (specOrder_l1 n l i hi hl l.length 0 [] (by omega) (by simp)))
      · simp only [spec_l04Order.l0,hr]
        rw [if_pos (by omega),if_pos (by omega),decide_eq_false e]
      · simp only [spec_l04Order.j1]
        rw [if_neg (by simp)]
        rfl
theorem l04Order_ev (n:Int) (l:List Tok) (key:ByteArray) (hl:l.length≤1048576) (hk:key.size≤1048576):Ev (fun k=>spec_l04Order.f k n l key) (orderL l (fnv key)) :=
  Ev.bind (spec_l04Fnv_ev key (by omega)) (specOrder_l0 n (fnv key) l hl l 0 rfl (by omega))
def atOr (n L:Nat):Int:=if n=L then -1 else (n:Int)
theorem atOr_eq {n L:Nat} (h:n=L):atOr n L = -1:=if_pos h
theorem atOr_ne {n L:Nat} (h:¬ n=L):atOr n L=(n:Int):=if_neg h
theorem indexT_l0 (l:List Tok) (h:Int) (hl:l.length≤1048576):∀ (s:List Tok) (i:Nat),l.drop i=s→i≤l.length →
    Ev (fun k=>slices_IndexFunc_impl_Token_impl_Token_impl_order_1.l0 k l (l.length:Int) (i:Int) h) (atOr (firstAt h s i) l.length)
  | [],i,hd,hi=>by
    have:=dropNil' hd hi
    simp only [firstAt]
    rw [atOr_eq (by omega)]
    refine Ev.step (f:=fun _=>some (-1)) (fun k=>?_) (Ev.now _)
    simp only [slices_IndexFunc_impl_Token_impl_Token_impl_order_1.l0]
    rw [if_neg (by omega)]
  | t :: s,i,hd,hi=>by
    obtain ⟨h1,h2,h3⟩:=dropCons hd z57
    have hr:rd_T57 l (i:Int)=t:=by simpa [rd_T57] using h2
    simp only [firstAt]
    by_cases e:t.f0<h
    · rw [if_pos e]
      refine Ev.step (fun k=>?_) (indexT_l0 l h hl s (i+1) h3 (by omega))
      simp only [slices_IndexFunc_impl_Token_impl_Token_impl_order_1.l0,hr,impl_order_1_cap.f,Option.bind_some]
      rw [if_pos (by omega),if_pos (by omega),if_pos (by omega),if_neg (by simp;omega),w64 (by omega) (by omega)]
      rfl
    · rw [if_neg e,atOr_ne (by omega)]
      refine Ev.step (f:=fun _=>some (i:Int)) (fun k=>?_) (Ev.now _)
      simp only [slices_IndexFunc_impl_Token_impl_Token_impl_order_1.l0,hr,impl_order_1_cap.f,Option.bind_some]
      rw [if_pos (by omega),if_pos (by omega),if_pos (by omega),if_pos (by simp;omega)]
theorem implOrder_l0 (n:Int) (l:List Tok) (a:Nat) (ha:a≤l.length) (hl:l.length≤1048576):∀ (f i:Nat) (acc:List Int),i+f=l.length→acc.length≤i →
    Ev (fun k=>impl_order.l0 k (a:Int) acc (l.length:Int) (i:Int) n l) (ordFrom l a f i acc)
  | 0,i,acc,h,hc=>by
    refine Ev.step (f:=fun _=>some acc) (fun k=>?_) (Ev.now _)
    simp only [impl_order.l0]
    rw [if_neg (by omega)]
  | f+1,i,acc,h,hc=>by
    obtain ⟨t1,t2⟩:=tmod_at l a i ha (by omega) hl
    refine Ev.step (fun k=>by simp only [impl_order.l0,t1,rdT_at];rw [if_pos (by omega),if_neg (by omega),if_pos (by omega),if_pos t2]) (Ev.bind (Contains_ev acc _ (by omega)) ?_)
    simp only [ordFrom]
    by_cases e:(l.getD ((a+i) % l.length) z57).f1 ∈ acc
    · rw [if_pos e,decide_eq_true e]
      refine evPos rfl ?_
      rw [w64 (by omega) (by omega)]
      exact implOrder_l0 n l a ha hl f (i+1) acc (by omega) (by omega)
    · rw [if_neg e,decide_eq_false e]
      refine evNeg (by simp) (evPos (by omega) ?_)
      rw [w64 (by omega) (by omega)]
      exact implOrder_l0 n l a ha hl f (i+1) _ (by omega) (by simp;omega)
theorem order_ev (n:Int) (l:List Tok) (key:ByteArray) (hl:l.length≤1048576) (hk:key.size≤1048576):Ev (fun k=>impl_order.f k n l key) (orderL l (fnv key)):=by
  refine Ev.bind (impl_fnv_ev key (by omega)) (Ev.bind (indexT_l0 l (fnv key) hl l 0 rfl (by omega)) ?_)
  have hf:=(firstAt_le (fnv key) l 0).2
  by_cases e:firstAt (fnv key) l 0=l.length
  · rw [atOr_eq e]
    refine evPos (by omega) (Ev.step (f:=fun k=>impl_order.l0 k 0 [] (l.length:Int) 0 n l) (fun k=>by simp only [impl_order.j0]) ?_)
    unfold orderL
    rw [ordFrom_mod l (firstAt (fnv key) l 0) 0 (by rw [e];simp)]
    exact implOrder_l0 n l 0 (by omega) hl l.length 0 [] (by omega) (by simp)
  · rw [atOr_ne e]
    refine evNeg (by omega) (Ev.step (f:=fun k=>impl_order.l0 k (firstAt (fnv key) l 0:Int) [] (l.length:Int) 0 n l) (fun k=>by simp only [impl_order.j0]) ?_)
    exact implOrder_l0 n l (firstAt (fnv key) l 0) (by omega) hl l.length 0 [] (by omega) (by simp)
def keyed (n:Int) (l:List Tok) (key:ByteArray):Bool:=ringOk n l && nameOk key
theorem nameOk_size {key:ByteArray} (h:nameOk key=true):key.size≤20:=by
  simp only [nameOk,Bool.and_eq_true,decide_eq_true_eq] at h
  exact h.1
theorem isKeyed_ev (n:Int) (l:List Tok) (key:ByteArray) (hl:l.length≤1048576) (hk:key.size≤1048576):Ev (fun k=>impl_isKeyed.f k n l key) (keyed n l key):=by
  unfold impl_isKeyed.f keyed
  refine Ev.bind (isLong1_ev key) ?_
  by_cases h:8000<key.size
  · have e:nameOk key=false:=by
      cases e:nameOk key with
      | false=>rfl
      | true=>have:=nameOk_size e;omega
    rw [e,Bool.and_false]
    exact evPos (by simpa using h) (Ev.now _)
  · refine evNeg (by simpa using h) (Ev.bind (impl_RingRight_ev n l hl) ?_)
    cases ringOk n l with
    | false=>exact evNeg (by simp) (Ev.now _)
    | true=>exact evPos rfl (Ev.bind (impl_NameRight_ev key (by omega)) (Ev.now _))
def ownersL (l:List Tok) (h:Int) (m:Nat):List Int:=(orderL l h).take (min m (orderL l h).length)
theorem l01Min_is (a b:Int):spec_l01Min.f a b=some (if a<b then a else b):=by
  unfold spec_l01Min.f
  split <;> rfl
theorem l04Owners_ev (n:Int) (l:List Tok) (key:ByteArray) (m:Nat) (hl:l.length≤1048576) (hk:key.size≤1048576):Ev (fun k=>spec_l04Owners.f k n l key (m:Int)) (ownersL l (fnv key) m):=by
  refine Ev.bind (l04Order_ev n l key hl hk) (evBind1 (l01Min_is _ _) ?_)
  have e:(if (m:Int)<((orderL l (fnv key)).length:Int) then (m:Int) else ((orderL l (fnv key)).length:Int))=((min m (orderL l (fnv key)).length:Nat):Int):=by split <;> omega
  rw [e]
  exact evPos (by omega) (evPos (by omega) (Ev.now _))
theorem owners_ev (n:Int) (l:List Tok) (key:ByteArray) (m:Nat) (hl:l.length≤1048576) (hk:key.size≤1048576):Ev (fun k=>impl_owners.f k n l key (m:Int)) (ownersL l (fnv key) m):=by
  refine Ev.bind (order_ev n l key hl hk) ?_
  have e:mn (m:Int) ((orderL l (fnv key)).length:Int)=((min m (orderL l (fnv key)).length:Nat):Int):=by unfold mn;split <;> omega
  rw [e]
  exact evPos (by omega) (evPos (by omega) (Ev.now _))
def ownersOut (n:Int) (l:List Tok) (key:ByteArray) (m:Int):List Int:=if (keyed n l key && isNode m)=true then ownersL l (fnv key) m.toNat else []
theorem ownersL_length (l:List Tok) (h:Int) (m:Nat):(ownersL l h m).length≤l.length:=by
  have:=orderL_length l h
  unfold ownersL
  rw [List.length_take]
  omega
theorem ownersOut_length (n:Int) (l:List Tok) (key:ByteArray) (m:Int) (hl:l.length≤1048576):(ownersOut n l key m).length≤1048576:=by
  unfold ownersOut
  split
  · have:=ownersL_length l (fnv key) m.toNat;omega
  · simp
theorem impl_Owners_ev (n:Int) (l:List Tok) (key:ByteArray) (m:Int) (hl:l.length≤1048576) (hk:key.size≤1048576):Ev (fun k=>impl_Owners.f k n l key m) (ownersOut n l key m):=by
  unfold impl_Owners.f ownersOut
  have jT:Ev (fun k=>impl_Owners.j0 k key m true n l) []:=Ev.step (f:=fun _=>some []) (fun k=>by simp [impl_Owners.j0]) (Ev.now _)
  refine Ev.bind (isKeyed_ev n l key hl hk) ?_
  cases keyed n l key with
  | false=>exact evNeg (by simp) jT
  | true =>
    refine evPos rfl (evBind1 (isNode_is _) ?_)
    cases hm:isNode m with
    | false=>exact jT
    | true =>
      have hm':=(isNode_iff m).1 hm
      obtain ⟨m,rfl⟩:=Int.eq_ofNat_of_zero_le (show 0≤m by omega)
      have hL:=ownersL_length l (fnv key) m
      refine Ev.step (fun k=>by simp only [impl_Owners.j0];rw [if_neg (by simp)]) (Ev.bind (owners_ev n l key m hl hk) (evBind1 (a:=ownersL l (fnv key) m) ?_ (Ev.now _)))
      simp only [slices_Clone_int64_int64.f,Option.bind_some,List.length_nil,List.nil_append]
      rw [if_pos (by omega)]
theorem spec_Owners_ev (n:Int) (l:List Tok) (key:ByteArray) (m:Int) (hl:l.length≤1048576) (hk:key.size≤1048576):Ev (fun k=>spec_Owners.f k n l key m) (ownersOut n l key m):=by
  unfold spec_Owners.f ownersOut keyed
  have jT:Ev (fun k=>spec_Owners.j0 k key m true n l) []:=Ev.step (f:=fun _=>some []) (fun k=>by simp [spec_Owners.j0]) (Ev.now _)
  refine Ev.bind (spec_RingRight_ev n l hl) ?_
  cases ringOk n l with
  | false=>exact evNeg (by simp) jT
  | true =>
    refine evPos rfl (Ev.bind (spec_NameRight_ev key hk) ?_)
    cases nameOk key with
    | false=>exact evNeg (by simp) jT
    | true =>
      refine evPos rfl (evBind1 (l02Node_is _) ?_)
      cases hm:isNode m with
      | false=>exact jT
      | true =>
        have hm':=(isNode_iff m).1 hm
        obtain ⟨m,rfl⟩:=Int.eq_ofNat_of_zero_le (show 0≤m by omega)
        have hL:=ownersL_length l (fnv key) m
        refine Ev.step (f:=fun k=>(spec_l04Owners.f k n l key (m:Int)).bind fun t=>if ([]:List Int).length+t.length<17592186044416 then some ([] ++ t) else none) (fun k=>by simp only [spec_Owners.j0];rw [if_neg (by simp)];rfl) (Ev.bind (l04Owners_ev n l key m hl hk) (evPos (by simp only [List.length_nil];omega) (Ev.now _)))
end Go.Proofs.YtdogendcjmgnnaaDoor.Q

namespace Go.Proofs.YtdogendcjmgnnaaDoor.Pure
open Go.RowKit Go.Proofs.YtdogendcjmgnnaaDoor.P Go.Proofs.YtdogendcjmgnnaaDoor.Q Go.Proofs.YtdogendcjmgnnaaDoorW.PrintWords Go.Proofs.YtdogendcjmgnnaaDoorW.PrintMore
theorem FnExactOwners:laws_FnExactOwners.Pure:=by
  intro x key m hx _ _
  have hl:x.f1.length≤9223372036854775807:=hx.2.1
  refine Ev.rounds ?_
  unfold laws_FnExactOwners.f
  refine evIte (fun _=>Ev.now _) (fun hk0=>?_)
  have hk:key.size≤1048576:=by omega
  refine evBind1 (szRing_is x.f0 x.f1 _ (by omega) (by omega) hl) (evIte (fun _=>Ev.now _) (fun h=>?_))
  have hl':x.f1.length≤1048576:=by
    split at h <;> omega
  have ta:=toRing_ev x.f0 x.f1 hl'
  have ga:(x.f1.map toTok).length≤1048576:=by simpa using hl'
  generalize x.f1.map toTok=l at ta ga
  generalize x.f0=n at *
  have s1:=spec_Owners_ev n l key m ga hk
  have s2:=impl_Owners_ev n l key m ga hk
  have hj:=ownersOut_length n l key m ga
  generalize ownersOut n l key m=r at s1 s2 hj
  have eo:=eqInt64S_ev r (by omega)
  have ho:=heldInt64S_ev r 1 (by omega) (by omega)
  refine Ev.bind ta (Ev.bind s1 (Ev.bind ta (Ev.bind s2 (Ev.bind eo (evPos rfl ?_)))))
  refine Ev.bind ta (Ev.bind (eqRing_ev n l (by omega)) (evPos rfl (Ev.bind (markRing_ev n l 1 (by omega) (by omega)) (evNeg (by omega) (Ev.bind eo ?_)))))
  refine Ev.step (fun k=>by simp only [laws_FnExactOwners.j0];rw [if_neg (by simp)]) ?_
  refine Ev.bind (markInt64S_ev r 1 (by omega) (by omega)) (Ev.bind ho (evNeg (by omega) (evPos rfl ?_)))
  exact Ev.bind ta (Ev.bind s2 (Ev.bind eo (evPos rfl (Ev.bind ho (evNeg (by omega) (evPos rfl (Ev.now _)))))))
end Go.Proofs.YtdogendcjmgnnaaDoor.Pure

namespace Go.Proofs.YtdogendcjmgnnaaDoor.fnExactOwners
open Go.ChangeShapes Go.WideShapes Go.ChangeAt Go.RowKit Go.Proofs.YtdogendcjmgnnaaDoor.P Go.Proofs.YtdogendcjmgnnaaDoor.RO Go.Proofs.YtdogendcjmgnnaaDoor.Open Go.Proofs.YtdogendcjmgnnaaDoorW.PrintWords
open Go.ChangeMaps (open_string shut_string)
set_option linter.unusedVariables false
theorem own:ownKnob Tryd.prog.godebug=none:=by kernel_rfl
theorem laidOut:laidOutB Tryd.prog=true:=by kernel_rfl
set_option maxRecDepth 100000 in
theorem lifted (os:Os) (started:os.Started) (H:Type) (enc:TypeId × Value→H) :
    ReturnsInHanded {} Tryd.checked os 7 .any (fun w args=>(Rows.fnExactOwnersSpec.pre enc Tryd.prog Tryd.f7 Rows.fnExactOwnersRow.domain false w args∧laidMetH Tryd.prog Rows.fnExactOwnersRow.laid w)∧sizedMet enc Tryd.prog Tryd.f7 (OpenSpec.ofChange Rows.fnExactOwnersSpec) false w args) (Rows.fnExactOwnersSpec.post enc Tryd.prog Tryd.f7 false true false false):=by
  refine returnsInHanded_of_change_and (C:=Tryd.checked) (X:=fun w _=>laidMetH Tryd.prog Rows.fnExactOwnersRow.laid w) (fun _ _ _ hh h=>h.of_heap hh) own started (by kernel_rfl) Tryd.func7
    (ChangeSpec.witness_shaped (enc:=enc) (C:=Tryd.checked) (X:=fun w _=>laidMetH Tryd.prog Rows.fnExactOwnersRow.laid w) false (World.laidAll Tryd.prog os Rows.fnExactOwnersRow.laid) #[.agg #[.int .i64 0,.slice none 0 0],.string ByteArray.empty,.int .i64 0] 8 (World.laidAll_os _ _ _) (World.shaped_of_ZipB (by kernel_rfl) (by kernel_rfl)) (by kernel_rfl) (by kernel_rfl) (by kernel_rfl)
      (by rw [MakeChecks.laidMetH_plain _ _ _ (by kernel_rfl)];exact laidMet_laidAll _ (by kernel_rfl) (by kernel_rfl))) ?_
  intro W base args ds gs before hval0 hW hcnd hsz0 hL_ _
  have hsz:(DataW.weightsEach Tryd.prog (Tryd.f7.params.toList ++ Rows.fnExactOwnersSpec.plain.varTypes Tryd.prog) (ds ++ gs)).all (· ≤ reachBytes)=true:=hsz0
  have hval:∀ (j:Nat) t v,Tryd.f7.params[j]? = some t→args[j]? = some v→Value.okWide Tryd.prog W .any base t v:=hval0
  have hW':=hW
  obtain ⟨p,q,hA0,hV,rfl,hfz,hnd⟩:=hW
  have hA:DataW.TrodAll enc Tryd.prog W 0 (fun _=>true) true Tryd.f7.params.toList args.toList ds p:=hA0
  rw [Tryd.params7] at hA hval hsz
  obtain ⟨v0,vs0,d0,ds0,p0,q0,hargs,rfl,rfl,h0,r0⟩:=trodAll_cons hA
  obtain ⟨v1,vs1,d1,ds1,p1,q1,rfl,rfl,rfl,h1,r1⟩:=trodAll_cons r0
  obtain ⟨v2,vs2,d2,ds2,p2,q2,rfl,rfl,rfl,h2,r2⟩:=trodAll_cons r1
  obtain ⟨rfl,rfl,rfl⟩:=trodAll_nil r2
  obtain rfl:args=#[v0,v1,v2]:=by cases args;simp_all
  obtain ⟨rfl,rfl⟩:=trodVars_none hV
  have k0:=h0
  have lt0:∀ x ∈ p0,x.block<W.heap.size:=by obtain ⟨m,hm⟩:=k0;exact DataW.trod_lt m _ _ _ hm
  obtain ⟨cs0,rfl,_⟩:=okWide_struct Tryd.underlying24 (hval 0 24 v0 rfl rfl)
  obtain ⟨fuel0,hf0⟩:=h0
  obtain ⟨x0,hk0,w0⟩:=op_T24 hf0
  obtain ⟨A0_1,c0_1,hcs0,hl0_1,hr0_1⟩:=k24_open hk0
  obtain rfl:cs0=#[.int .i64 x0.f0,.slice A0_1 x0.f1.length c0_1]:=Array.toList_inj.1 hcs0
  obtain ⟨x1,rfl,rfl,rfl,y1⟩:=open_string Tryd.underlying9 (hval 1 9 v1 rfl rfl) h1
  have w1:x1.size≤140737488351232:=by
    have z:=sized_string hsz (j:=1) (t:=9) rfl rfl
    rw [Array.length_toList] at z
    exact z
  obtain ⟨x2,rfl,rfl,rfl,w2⟩:=open_int Tryd.underlying2 (hval 2 2 v2 rfl rfl) h2
  clear hA0 hval0 hsz0 hsz
  obtain ⟨k,hp⟩:=Pure.FnExactOwners x0 x1 x2 w0 w1 w2
  refine (P.laws_FnExactOwners.calls k x0.f0 _ _ x0.f1 x1 x2 true W hr0_1 hl0_1 hp).mono fun e W' ⟨he,bel0⟩=>?_
  have bel:Below W.heap.size W W':=bel0
  subst he
  exact ⟨_,rfl,_,_,_,[],_,[],hW',trodAll_mk1 (shut_bool Tryd.underlying4 _),(trodAll_cons_mk (Below.trod laidOut (by kernel_rfl) (of_decide_eq_true (by kernel_rfl)) k0 bel lt0) (trodAll_cons_mk (shut_string Tryd.underlying9 y1) (trodAll_cons_mk (shut_int Tryd.underlying2 w2) trodAll_mk0))),rfl,bel.frame _,fun h=>by cases h⟩
theorem over:Rows.fnExactOwnersRow.holds Tryd.pinned (OpenSpec.ofChange Rows.fnExactOwnersSpec) :=
  OpenClaim.holds_of_wide 7 Tryd.f7 rfl rfl rfl rfl rfl rfl rfl ⟨rfl,rfl,rfl,rfl,rfl⟩ rfl rfl rfl rfl rfl (by kernel_rfl) Tryd.func7 (by kernel_rfl)
    (of_decide_eq_true (by kernel_rfl)) (by unfold Func.isWrapper;first | (rw [if_pos (by decide +kernel)];kernel_rfl) | (rw [if_neg (by decide +kernel)];exact ⟨rfl,rfl⟩))
    (fun os started H enc _=>lifted os started H enc)
theorem proved:Rows.FnExactOwnersSaid:=over
theorem card:Rows.FnExactOwnersCardSaid :=
  Claim7.holds_tied_plain_at .later [] [.data,.data,.data] true (true, "ec164a04fd4b5fbfa775392ccf34910d927062456d59d87074f881a1f57c5866") false proved (fun _ h=>by cases h) (by kernel_rfl) (fun _ h=>by cases h) fnExactOwners_row_tie rfl ⟨rfl,rfl⟩ (by kernel_rfl) rfl
    (fun f fn hf hfn=>by
      obtain rfl:f=7:=Option.some.inj ((show Tryd.prog.funcNamed Rows.fnExactOwnersRow.func=some 7 by kernel_rfl).symm.trans hf) |>.symm
      obtain rfl:fn=Tryd.f7:=(Option.some.inj (Tryd.func7.symm.trans hfn)).symm
      exact ⟨by kernel_rfl,fun j t ht=>by
        rw [Tryd.params7] at ht
        have h_:t ∈ [24,9,2]:=by have:=Array.mem_of_getElem? ht;simpa using this
        have hs_:∀ x ∈ [24,9,2],Tryd.prog.wantsStandIn x=false:=by
          intro x hx
          simp only [List.mem_cons,List.not_mem_nil,or_false] at hx
          rcases hx with rfl | rfl | rfl <;> kernel_rfl
        exact hs_ t h_⟩)
    (by kernel_rfl)
#print axioms card
#print axioms proved
end Go.Proofs.YtdogendcjmgnnaaDoor.fnExactOwners
namespace Go.Proofs.YtdogendcjmgnnaaDoor
/-- The row, under a short name, for the claim. -/
theorem fnExactOwners_holds:Rows.FnExactOwnersCardSaid:=fnExactOwners.card
end Go.Proofs.YtdogendcjmgnnaaDoor
