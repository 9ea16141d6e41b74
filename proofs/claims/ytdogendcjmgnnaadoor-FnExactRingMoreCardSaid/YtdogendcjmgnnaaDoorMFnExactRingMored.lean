/- For all rings the program's RingMore and the reference's return the same, of memory of its own, and the ring stays as it was. No condition. (Part 4 of 4: written by programs of this workplace and by hand, merged.) -/
import Derived.Test.YtdogendcjmgnnaaDoorMFnExactRingMorea
import Derived.Test.YtdogendcjmgnnaaDoorMFnExactRingMorec
import Derived.Test.YtdogendcjmgnnaaDoorMFnExactRingMoreWWords
import Derived.Test.YtdogendcjmgnnaaDoorMFnExactRingMoreWMore
import Derived.Laws.BitsLemmas
import Derived.Test.YtdogendcjmgnnaaDoorRows
import Derived.Test.YtdogendcjmgnnaaDoorTie
import Derived.Test.YtdogendcjmgnnaaDoorCards
import Derived.WalkKit
import Derived.ProofKit
import Derived.OpenShut
import Derived.ShutString
import Derived.ChangeOld
import Derived.Below
import Derived.SizedLaws
import Derived.LaidMore
import Derived.Lay
import Derived.LaidOnce
import Derived.SevenTiedAt
import Derived.LaidLaws
import Derived.ChangeSame
import Derived.ChangeVars
import Derived.JoinedOf
set_option linter.unusedVariables false
set_option linter.unusedSimpArgs false

namespace Go.Proofs.YtdogendcjmgnnaaDoor.P
open Go.RowKit Go.Proofs.YtdogendcjmgnnaaDoorW.PrintWords Go.Proofs.YtdogendcjmgnnaaDoorW.PrintLast Go.Proofs.YtdogendcjmgnnaaDoorW.PrintMore
attribute [local go_sem] max2_int min2_int max_two min_two max_three min_three max_four min_four   -- for this text's walks alone
set_option linter.unusedVariables false
set_option linter.unusedSimpArgs false

/-! ### impl_ringNew: function 42 -/
mutual
def impl_ringNew.l0:Nat→Int→Int→Int→Int→List (S57)→Option (Int × (List (S57)))
 | 0,_,_,_,_,_=>none
 | k+1,x0,x1,x6,x263000,x263001=>if x6≤x0 then (impl_ringNew.l1 k x0 x1 x6 1 x263000 x263001) else ((slices_SortFunc_impl_Token_impl_Token_impl_ringNew_1.f k x263001).bind fun t263=>(some (x263000,t263)))
def impl_ringNew.l1:Nat→Int→Int→Int→Int→Int→List (S57)→Option (Int × (List (S57)))
 | 0,_,_,_,_,_,_=>none
 | k+1,x0,x1,x6,x7,x263000,x263001=>if x7≤x1 then ((impl_decimal.f k x6).bind fun t264=>(if t264.size+1≤9223372036854775807 then ((impl_decimal.f k x7).bind fun t265=>(if (t264.size+1)+t265.size≤9223372036854775807 then ((impl_fnv.f k ((t264 ++ (⟨#[45]⟩:ByteArray)) ++ t265)).bind fun t266=>(if x263001.length<8796093022208 then (impl_ringNew.l1 k x0 x1 x6 (wrap64 (x7+1)) x263000 (x263001 ++ [(⟨t266,x6⟩:S57)])) else (none))) else (none))) else (none))) else (impl_ringNew.l0 k x0 x1 (wrap64 (x6+1)) x263000 x263001)
end
def impl_ringNew.f (k:Nat) (a0:Int) (a1:Int):Option (Int × (List (S57))):=impl_ringNew.l0 k a0 a1 1 a0 ([]:List (S57))
theorem impl_ringNew.mono_l:∀ k,(∀ y0 y1 y2 y3 y4,LeO (impl_ringNew.l0 k y0 y1 y2 y3 y4) (impl_ringNew.l0 (k+1) y0 y1 y2 y3 y4))∧(∀ y0 y1 y2 y3 y4 y5,LeO (impl_ringNew.l1 k y0 y1 y2 y3 y4 y5) (impl_ringNew.l1 (k+1) y0 y1 y2 y3 y4 y5))
 | 0=>⟨fun _ _ _ _ _ r h=>by simp [impl_ringNew.l0] at h,fun _ _ _ _ _ _ r h=>by simp [impl_ringNew.l1] at h⟩
 | k+1=>by
  obtain ⟨ih0,ih1⟩:=impl_ringNew.mono_l k
  refine ⟨?_,?_⟩
  ·intro y0 y1 y2 y3 y4
   unfold impl_ringNew.l0
   repeat' first
   | (with_reducible exact ih0 _ _ _ _ _)
   | (with_reducible exact ih1 _ _ _ _ _ _)
   | (with_reducible exact impl_decimal.mono _ _)
   | (with_reducible exact impl_fnv.mono _ _)
   | (with_reducible exact slices_SortFunc_impl_Token_impl_Token_impl_ringNew_1.mono _ _)
   | (with_reducible exact LeO.refl _)
   | (with_reducible exact LeO.none _)
   | (with_reducible refine LeO.ite ?_ ?_)
   | (with_reducible refine LeO.bind ?_ (fun _=>?_))
   | exact ih0 _ _ _ _ _
   | exact ih1 _ _ _ _ _ _
   | exact impl_decimal.mono _ _
   | exact impl_fnv.mono _ _
   | exact slices_SortFunc_impl_Token_impl_Token_impl_ringNew_1.mono _ _
   | exact LeO.none _
   | refine LeO.ite ?_ ?_
   | refine LeO.bind ?_ (fun _=>?_)
  ·intro y0 y1 y2 y3 y4 y5
   unfold impl_ringNew.l1
   repeat' first
   | (with_reducible exact ih0 _ _ _ _ _)
   | (with_reducible exact ih1 _ _ _ _ _ _)
   | (with_reducible exact impl_decimal.mono _ _)
   | (with_reducible exact impl_fnv.mono _ _)
   | (with_reducible exact slices_SortFunc_impl_Token_impl_Token_impl_ringNew_1.mono _ _)
   | (with_reducible exact LeO.refl _)
   | (with_reducible exact LeO.none _)
   | (with_reducible refine LeO.ite ?_ ?_)
   | (with_reducible refine LeO.bind ?_ (fun _=>?_))
   | exact ih0 _ _ _ _ _
   | exact ih1 _ _ _ _ _ _
   | exact impl_decimal.mono _ _
   | exact impl_fnv.mono _ _
   | exact slices_SortFunc_impl_Token_impl_Token_impl_ringNew_1.mono _ _
   | exact LeO.none _
   | refine LeO.ite ?_ ?_
   | refine LeO.bind ?_ (fun _=>?_)
theorem impl_ringNew.mono:∀ a0 a1 k,LeO (impl_ringNew.f k a0 a1) (impl_ringNew.f (k+1) a0 a1):=by
 intro a0 a1 k
 obtain ⟨ih0,ih1⟩:=impl_ringNew.mono_l k
 unfold impl_ringNew.f
 repeat' first
   | (with_reducible exact ih0 _ _ _ _ _)
   | (with_reducible exact ih1 _ _ _ _ _ _)
   | (with_reducible exact impl_decimal.mono _ _)
   | (with_reducible exact impl_fnv.mono _ _)
   | (with_reducible exact slices_SortFunc_impl_Token_impl_Token_impl_ringNew_1.mono _ _)
   | (with_reducible exact LeO.refl _)
   | (with_reducible exact LeO.none _)
   | (with_reducible refine LeO.ite ?_ ?_)
   | (with_reducible refine LeO.bind ?_ (fun _=>?_))
   | exact ih0 _ _ _ _ _
   | exact ih1 _ _ _ _ _ _
   | exact impl_decimal.mono _ _
   | exact impl_fnv.mono _ _
   | exact slices_SortFunc_impl_Token_impl_Token_impl_ringNew_1.mono _ _
   | exact LeO.none _
   | refine LeO.ite ?_ ?_
   | refine LeO.bind ?_ (fun _=>?_)
def impl_ringNew.T8:Bool × List (List Nat × List Nat):=(true,[([],[]),([0],[0]),([],[]),([2],[2]),([3],[3]),([],[]),([5,3],[5]),([4,6],[4,6]),([7,6],[7]),([],[]),([8,9],[8,9]),([10],[10]),([1,11,8],[1,11]),([0,1,2,3,4,5,6,7,8,9,10,11,12],[]),([13,12,12,0,1,2,3,4,5,6,7,8,9,10,11,12],[12,13])])
def impl_ringNew.B8:List Nat:=[0,1,0,4,12,0,44,124,252,0,1020,2044,4095,8191,16383]
theorem impl_ringNew.tab8:rtab .any (opsOf Tryd.f42 8)=impl_ringNew.T8:=by kernel_rfl
theorem impl_ringNew.bits8:waitsOk impl_ringNew.T8.2 impl_ringNew.B8=true:=by kernel_rfl
set_option maxHeartbeats 8000000 in
set_option maxRecDepth 100000 in
theorem impl_ringNew.calls (k:Nat) (a0:Int) (a1:Int) (r1:Int) (r2:List (S57)) (w:World) (h:impl_ringNew.f k a0 a1=some (r1,r2)) :
  Calls Tryd.prog 42 #[.int .i64 a0,.int .i64 a1] w fun e w'=>∃ v1_:Value,e = .returned (.agg #[.int .i64 r1,v1_])∧Kd.R k57 57 w' w.heap.size (fun _=>True) v1_ r2∧Below w.heap.size w w':=by
 have hu29:=Tryd.underlying29
 have hu57:=Tryd.underlying57
 have HB:=Aside0.mk (Below.refl w.heap.size w)
 have H:(impl_ringNew.l0 k a0 a1 1 a0 ([]:List (S57)))=some (r1,r2):=h
 clear h
 have H':=Aside0.mk H
 clear H
 go_enter Tryd.func42,Tryd.ntmps42
 go_wp2_with (first | ((with_reducible refine gd_ 4 ?_);refine be_ 4 #[.int .i64 0,.slice none 0 0] 29 ?_;intro gb261 hg w3 hbox hb;refine as4_ (below_step (z3_ HB.out) hb) (hbox) ((z7_ HB.out:w.heap.size≤gb261)) ((z7_ HB.out:w.heap.size≤gb261)) ?_;clear HB;intro HB BK261 GW261 GE261;clear hb hbox hg) | ((with_reducible refine gd_ 5 ?_);refine be_ 5 #[.int .i64 0,.slice none 0 0] 29 ?_;intro gb262 hg w4 hbox hb;refine as7_ (blkB_ BK261.out hb) (below_step (z10_ HB.out GE261.out) hb) (hbox) ((z12_ HB.out GE261.out:w.heap.size≤gb262)) ((z12_ HB.out GE261.out:w.heap.size≤gb262)) (neL_ BK261.out hg) (neG_ BK261.out hg) ?_;clear BK261 HB;intro BK261 HB BK262 GW262 GE262 NB261_262 NB262_261;clear hb hbox hg;have hnb5:=NB262_261.out;have hnc5:=NB261_262.out;have ⟨hcz6_0,hcz6_1,hfz6_0,hfz6_1⟩:=cz2_ BK262.out))
 go_loopg [6] k (fun kq v6 w'=>∃ (x6_1:Int) (x263001_1:List (S57)) (u263001:Value),v6 = .int .i64 x6_1∧Aside0 (impl_ringNew.l0 kq a0 a1 x6_1 a0 x263001_1=some (r1,r2))∧Aside0 (kq≤k)∧Aside0 (Kd.R k57 57 w' w.heap.size (fun _=>True) u263001 x263001_1)∧Aside0 (w'.heap[gb261]? = some (.cells #[.int .i64 0,(.slice none 0 0)] 29 (0,0)))∧Aside0 (w'.heap[gb262]? = some (.cells #[.int .i64 a0,u263001] 29 (0,0)))∧Aside0 (Below w.heap.size w w'))
 case atStart=>exact ⟨(1),(([]:List (S57))),(.slice none 0 0),(z2_),H',⟨Nat.le_refl _⟩,⟨z27_⟩,⟨z24_ NB261_262.out BK261.out⟩,⟨z25_ BK262.out⟩,⟨z6_ HB.out GE261.out GE262.out⟩⟩
 case round =>
  clear H'
  try clear p2
  try clear c4
  try clear c5
  try clear hcz6_0
  try clear hcz6_1
  try clear hfz6_0
  try clear hfz6_1
  obtain ⟨x6_1,x263001_1,u263001,rfl,HA,HK1,HO_263001,BK261,BK262,HB⟩:=hrel
  cases gk with
  | zero=>exact absurd HA.out (by simp [impl_ringNew.l0])
  | succ k1 =>
   have H:=HA.out
   clear HA
   simp only [impl_ringNew.l0] at H
   by_cases c7:x6_1≤a0
   ·rw [if_pos c7] at H
    have c7b0:decide (x6_1≤a0)=true:=decide_eq_true c7
    clear c7
    have H':=Aside0.mk H
    clear H
    go_wp2
    go_loopg [7] k1 (fun kq v7 w'=>∃ (x7_2:Int) (x263001_2:List (S57)) (u263001:Value),v7 = .int .i64 x7_2∧Aside0 (impl_ringNew.l1 kq a0 a1 x6_1 x7_2 a0 x263001_2=some (r1,r2))∧Aside0 (kq≤k1)∧Aside0 (Kd.R k57 57 w' w.heap.size (fun _=>True) u263001 x263001_2)∧Aside0 (w'.heap[gb261]? = some (.cells #[.int .i64 0,(.slice none 0 0)] 29 (0,0)))∧Aside0 (w'.heap[gb262]? = some (.cells #[.int .i64 a0,u263001] 29 (0,0)))∧Aside0 (Below w.heap.size w w'))
    case atStart=>exact ⟨(1),(x263001_1),(u263001),(z2_),H',⟨Nat.le_refl _⟩,⟨z1_ HO_263001.out⟩,⟨z4_ BK261.out⟩,⟨z4_ BK262.out⟩,⟨z6_ HB.out GE261.out GE262.out⟩⟩
    case round =>
     clear H'
     try clear p2
     try clear c4
     try clear c5
     try clear c7
     try clear c7b0
     try clear hcz6_0
     try clear hcz6_1
     try clear hfz6_0
     try clear hfz6_1
     try clear p2
     obtain ⟨x7_2,x263001_2,u263001,rfl,HA,HK2,HO_263001,BK261,BK262,HB⟩:=hrel
     cases gk with
     | zero=>exact absurd HA.out (by simp [impl_ringNew.l1])
     | succ k2 =>
      have H:=HA.out
      clear HA
      simp only [impl_ringNew.l1] at H
      by_cases c8:x7_2≤a1
      ·rw [if_pos c8] at H
       have c8b0:decide (x7_2≤a1)=true:=decide_eq_true c8
       clear c8
       replace H:=Option.bind_eq_some_iff.mp H
       obtain ⟨t264,A90,H⟩:=H
       replace H:(if t264.size+1≤9223372036854775807 then ((impl_decimal.f k2 x7_2).bind fun t265=>(if (t264.size+1)+t265.size≤9223372036854775807 then ((impl_fnv.f k2 ((t264 ++ (⟨#[45]⟩:ByteArray)) ++ t265)).bind fun t266=>(if x263001_2.length<8796093022208 then (impl_ringNew.l1 k2 a0 a1 x6_1 (wrap64 (x7_2+1)) a0 (x263001_2 ++ [(⟨t266,x6_1⟩:S57)])) else (none))) else (none))) else (none))=some (r1,r2):=H
       have A9:=Aside0.mk A90
       clear A90
       by_cases c10:t264.size+1≤9223372036854775807
       ·rw [if_pos c10] at H
        have c10b0:=eq_true c10
        have c10b1:decide (t264.size+1≤9223372036854775807)=true:=decide_eq_true c10
        try have c10b2:(9223372036854775807<t264.size+1)=False:=eq_false (Nat.not_lt.2 c10)
        replace H:=Option.bind_eq_some_iff.mp H
        obtain ⟨t265,A110,H⟩:=H
        replace H:(if (t264.size+1)+t265.size≤9223372036854775807 then ((impl_fnv.f k2 ((t264 ++ (⟨#[45]⟩:ByteArray)) ++ t265)).bind fun t266=>(if x263001_2.length<8796093022208 then (impl_ringNew.l1 k2 a0 a1 x6_1 (wrap64 (x7_2+1)) a0 (x263001_2 ++ [(⟨t266,x6_1⟩:S57)])) else (none))) else (none))=some (r1,r2):=H
        have A11:=Aside0.mk A110
        clear A110
        by_cases c12:(t264.size+1)+t265.size≤9223372036854775807
        ·rw [if_pos c12] at H
         have c12b0:=eq_true c12
         have c12b1:decide ((t264.size+1)+t265.size≤9223372036854775807)=true:=decide_eq_true c12
         try have c12b2:(9223372036854775807<(t264.size+1)+t265.size)=False:=eq_false (Nat.not_lt.2 c12)
         replace H:=Option.bind_eq_some_iff.mp H
         obtain ⟨t266,A130,H⟩:=H
         replace H:(if x263001_2.length<8796093022208 then (impl_ringNew.l1 k2 a0 a1 x6_1 (wrap64 (x7_2+1)) a0 (x263001_2 ++ [(⟨t266,x6_1⟩:S57)])) else (none))=some (r1,r2):=H
         have A13:=Aside0.mk A130
         clear A130
         by_cases c14:x263001_2.length<8796093022208
         ·rw [if_pos c14] at H
          have LMc14:=Aside0.mk c14
          clear c14
          obtain ⟨y267,hy267⟩:∃ y_:List (S57),y_=(x263001_2 ++ [(⟨t266,x6_1⟩:S57)]):=⟨_,rfl⟩
          replace H:(impl_ringNew.l1 k2 a0 a1 x6_1 (wrap64 (x7_2+1)) a0 y267)=some (r1,r2):=by first | (rw [hy267];with_reducible exact H) | (have H2_:=(Option.bind_some _ _).symm.trans H;rw [hy267];with_reducible exact H2_) | (have H2_:=(Option.bind_some _ _).symm.trans H;with_reducible exact H2_) | with_reducible exact H | (rw [hy267];exact H) | exact H
          have Ny267:=Aside0.mk hy267
          clear hy267
          have H':=Aside0.mk H
          clear H
          try go_wp2
          refine as4_ (Kd.R_drew HO_263001.out) (blk_drew BK261.out) (blk_drew BK262.out) (below_drew1 HB.out) ?_
          clear HO_263001 BK261 BK262 HB
          intro HO_263001 BK261 BK262 HB
          refine start_ (n:=15) (S:=fun w'=>w'.cell? ⟨gb262,0,none⟩=some (.int .i64 a0)∧w'.cell? ⟨gb262,1,none⟩=some (u263001)) (ds:=[14]) #[O,O,O,O,O,O,O,O,O,O,O,O,O,O,O] (by kernel_rfl) rfl rfl (cc2_ BK262.out) (fun hHeld=>?_);refine with_tabW impl_ringNew.tab8 impl_ringNew.bits8 (fun HT_ HW_=>?_)
          generalize wr.drew=w15 at HO_263001 BK261 BK262 HB hHeld ⊢
          refine pu_ 0 20 #[I,O,O,O,O,O,O,O,O,O,O,O,O,O,O] HT_.out ?_
          refine pu_ 2 22 #[I,O,I,O,O,O,O,O,O,O,O,O,O,O,O] HT_.out ?_
          refine pu_ 5 25 #[I,O,I,O,O,I,O,O,O,O,O,O,O,O,O] HT_.out ?_
          refine pu_ 9 29 #[I,O,I,O,O,I,O,O,O,I,O,O,O,O,O] HT_.out ?_
          refine tk2_ 1 21 #[I,I,I,O,O,I,O,O,O,I,O,O,O,O,O] HT_.out HW_.out hHeld ?_
          refine o1_ 3 23 #[I,I,I,I,O,I,O,O,O,I,O,O,O,O,O] HT_.out (fun K hK=>?_)
          refine gs_ Tryd.func65 #[.int .i64 x6_1] ?_
          with_reducible refine (impl_decimal.calls k2 x6_1 t264 _ A9.out).mono ?_
          rintro e w' ⟨rfl,⟨nd,rfl⟩⟩
          refine ⟨_,rfl,?_⟩
          refine hK.out _ _ (cc2_ BK262.out) (fun hHeld=>?_)
          clear hK K
          refine nm_ 23 ?_
          refine pu_ 4 24 #[I,I,I,I,I,I,O,O,O,I,O,O,O,O,O] HT_.out ?_
          refine o1_ 6 26 #[I,I,I,I,I,I,I,O,O,I,O,O,O,O,O] HT_.out (fun K hK=>?_)
          refine gs_ Tryd.func65 #[.int .i64 x7_2] ?_
          with_reducible refine (impl_decimal.calls k2 x7_2 t265 _ A11.out).mono ?_
          rintro e w' ⟨rfl,⟨nd,rfl⟩⟩
          refine ⟨_,rfl,?_⟩
          refine hK.out _ _ (cc2_ BK262.out) (fun hHeld=>?_)
          clear hK K
          refine nm_ 26 ?_
          refine pu_ 7 27 #[I,I,I,I,I,I,I,I,O,I,O,O,O,O,O] HT_.out ?_
          refine o1_ 8 28 #[I,I,I,I,I,I,I,I,I,I,O,O,O,O,O] HT_.out (fun K hK=>?_)
          refine gs_ Tryd.func64 #[.string ((t264 ++ (⟨#[45]⟩:ByteArray)) ++ t265)] ?_
          with_reducible refine (impl_fnv.calls k2 ((t264 ++ (⟨#[45]⟩:ByteArray)) ++ t265) t266 _ A13.out).mono ?_
          rintro e w' ⟨rfl,⟨nd,rfl⟩⟩
          refine ⟨_,rfl,?_⟩
          refine hK.out _ _ (cc2_ BK262.out) (fun hHeld=>?_)
          clear hK K
          refine nm_ 28 ?_
          refine pu_ 10 30 #[I,I,I,I,I,I,I,I,I,I,I,O,O,O,O] HT_.out ?_
          refine o1_ 11 31 #[I,I,I,I,I,I,I,I,I,I,I,I,O,O,O] HT_.out (fun K hK=>?_)
          refine value_ (w1:=?_) (v:=?_) (by rfl) rfl ?_ ?_
          rotate_left 2
          ·go_simp
           constructor
           ·rfl
           ·rfl
          refine hK.out _ _ (cc2_ (blk_alloc BK262.out _)) (fun hHeld=>?_)
          clear hK K
          refine nm_ 31 ?_
          refine o1_ 12 32 #[I,I,I,I,I,I,I,I,I,I,I,I,I,O,O] HT_.out (fun K hK=>?_)
          refine Kd.R_append_step k57 (w0:=w) w.heap.size (by rfl) (.tmp 21) (.tmp 31) 27 57 (.agg #[(.int .i64 0),(.int .i64 0)]) 16 rfl Tryd.underlying27 info57 rfl (by decide) (by omega) u263001 x263001_2 (⟨t266,x6_1⟩:S57) [.int .i64 t266,.int .i64 x6_1] (fun _=>True) (fun _=>False) rfl rfl ?aP (fun _ hk=>hk.elim) ?aF ?aO ?aB ?aS ?aL ?_
          (case aP=>exact k57_mkM _ _ _ (⟨t266,x6_1⟩:S57))
          (case aB=>exact (z6_ HB.out GE261.out GE262.out))
          (case aF=>exact (fun _ _=>trivial))
          (case aO=>exact (z1_ HO_263001.out))
          (case aS=>exact (below_size (z6_ HB.out GE261.out GE262.out)))
          (case aL=>have:=LMc14.out;omega)
          intro v268 w16 ho hb hg hat
          rw [← Ny267.out] at ho
          refine as4_ (blk_grown (g:=gb261) (o:=.cells #[.int .i64 0,.slice none 0 0] 29 (0,0)) (z4_ BK261.out) hg (Kd.R_ne HO_263001.out BK261.out (by decide))) (blk_grown (g:=gb262) (o:=.cells #[.int .i64 a0,u263001] 29 (0,0)) (z4_ BK262.out) hg (Kd.R_ne HO_263001.out BK262.out (by decide))) (hb) (ho) ?_
          clear BK261 BK262 HB HO_263001
          intro BK261 BK262 HB HO269
          clear ho hb hg hat
          obtain ⟨Ao17,co17,eo17⟩:=Kd.R_slice HO269.out
          (first | subst eo17 | (injection eo17 with f1_ f2_ f3_;have f4_:=f1_.symm;have f5_:=f3_.symm;clear f1_ f2_ f3_;subst f4_;subst f5_))
          refine hK.out _ _ (cc2_ BK262.out) (fun hHeld=>?_)
          clear hK K
          refine nm_ 32 ?_
          refine pu_ 13 33 #[I,I,I,I,I,I,I,I,I,I,I,I,I,I,O] HT_.out ?_
          refine last_ (i:=14) (N:=none) #[I,I,I,I,I,I,I,I,I,I,I,I,I,I,I] rfl rfl (one_of HT_.out (by kernel_rfl)) (by decide) (fun K hK=>?_)
          have hs18:w16.cell? ⟨gb262,1,none⟩=some (u263001):=(blk_cell BK262.out 1).trans rfl
          have hfs18:=blk_frozen BK262.out 1
          have hns18_0:=NB261_262.out
          have hms18_0:=NB262_261.out
          refine skip_ (w1:=?_) (by rfl) rfl ?_ ?_
          rotate_left
          ·go_simp
           rfl
          refine hK.out _ _ ?_
          clear hK K
          refine done_ (done_of HT_.out (by kernel_rfl)) ?_
          try go_wp2
          go_roundg k2
          case measure=>have:=HK1.out;have:=HK2.out;omega
          case rel=>exact ⟨(wrap64 (x7_2+1)),(y267),(.slice Ao17 y267.length co17),(z2_),H',⟨by have:=HK1.out;have:=HK2.out;omega⟩,⟨by (with_reducible repeat (first | apply Kd.R_alloc | apply Kd.R_drewN | apply Kd.R_drew));exact Kd.R_mono (Kd.R_far (p:=⟨gb262,1,none⟩) (Kd.R_types HO269.out BK262.out (by decide)) (fun _ hk=>hk.2) (.slice Ao17 y267.length co17)) (fun _ hk=>trivial)⟩,⟨z34_ NB261_262.out BK261.out⟩,⟨by (with_reducible repeat (first | refine blk_drewN ?_ _ | refine blk_drew ?_ | refine blk_alloc ?_ _));refine blk_put (cs:=#[.int .i64 a0,u263001]) ?_ 1 _ rfl;(with_reducible repeat (first | refine blk_drewN ?_ _ | refine blk_drew ?_ | refine blk_alloc ?_ _));exact BK262.out⟩,⟨z6_ HB.out GE261.out GE262.out⟩⟩
         ·rw [if_neg c14] at H
          exact absurd H (by simp)
        ·rw [if_neg c12] at H
         exact absurd H (by simp)
       ·rw [if_neg c10] at H
        exact absurd H (by simp)
      ·rw [if_neg c8] at H
       have c8b0:decide (x7_2≤a1)=false:=decide_eq_false c8
       clear c8
       have H':=Aside0.mk H
       clear H
       go_wp2
       go_roundg k2
       case measure=>have:=HK1.out;have:=HK2.out;omega
       case rel=>exact ⟨(wrap64 (x6_1+1)),(x263001_2),(u263001),(z2_),H',⟨by have:=HK1.out;have:=HK2.out;omega⟩,⟨z1_ HO_263001.out⟩,⟨z4_ BK261.out⟩,⟨z4_ BK262.out⟩,⟨z6_ HB.out GE261.out GE262.out⟩⟩
   ·rw [if_neg c7] at H
    have c7b0:decide (x6_1≤a0)=false:=decide_eq_false c7
    clear c7
    replace H:=Option.bind_eq_some_iff.mp H
    obtain ⟨t263,A190,H⟩:=H
    replace H:(some (a0,t263))=some (r1,r2):=H
    have A19:=Aside0.mk A190
    clear A190
    simp only [Option.some.injEq,Prod.mk.injEq] at H
    obtain ⟨rfl,rfl⟩:=H
    have hnb20:=NB262_261.out
    have hnc20:=NB261_262.out
    have ⟨hcz21_0,hcz21_1,hfz21_0,hfz21_1⟩:=cz2_ BK262.out
    obtain ⟨Ao22,co22,eo22⟩:=Kd.R_slice HO_263001.out
    subst eo22
    go_wp2_with (first | ((with_reducible refine gc_ 66 ?_);refine gl_ (some 36) Tryd.func66 #[.slice Ao22 x263001_1.length co22,.func (.func 67) #[] #[]] ?_;(with_reducible refine (slices_SortFunc_impl_Token_impl_Token_impl_ringNew_1.calls k1 (fun k_=>some k_=(.slice Ao22 x263001_1.length co22:Value).ownBlock) (.slice Ao22 x263001_1.length co22) x263001_1  t263 w _ ?s1 ?s2 A19.out).mono ?_);(case s1=>repeat (first | (with_reducible first | exact HB.out | apply below_alloc | apply pw_below_drewN | apply below_drew1 | refine below_set ?_ GE261.out | refine below_set ?_ GE262.out) | exact HB.out));(case s2=>exact Kd.R_tight rfl HO_263001.out);rintro e w23 ⟨rfl,hy0,hb,hkp⟩;refine ⟨_,rfl,?_⟩;refine as4_ (Kd.R_reok rfl hy0 (fun k_ e_=>HO_263001.out.1 k_ e_)) (blk_kept (z4_ BK261.out) hkp (fun hs_=>(fun e_=>(Kd.R_ne HO_263001.out BK261.out (by decide)) e_) hs_)) (blk_kept (z4_ BK262.out) hkp (fun hs_=>(fun e_=>(Kd.R_ne HO_263001.out BK262.out (by decide)) e_) hs_)) (hb) ?_;clear HO_263001 BK261 BK262 HB;intro HO_263001 BK261 BK262 HB;(try clear hb);(try clear hkp);(try clear hy0);have ⟨hcz24_0,hcz24_1,hfz24_0,hfz24_1⟩:=cz2_ BK262.out;have ⟨hcz25_0,hcz25_1,hfz25_0,hfz25_1⟩:=cz2_ BK261.out))
    refine bodyPost_ret (results_cell_row rfl _ _ gb261 29 #[.int .i64 a0,.slice Ao22 x263001_1.length co22] (0,0) _ rfl (z25_ BK261.out) Tryd.underlying29 rfl (by kernel_rfl)) rfl ?_
    exact ⟨_,z8_,z39_ HO_263001.out BK261.out,z6_ HB.out GE261.out GE262.out⟩


/-! ### impl_within: function 40 -/
def impl_within.f (a0:Int) (a1:Int) (a2:Int):Option (Bool):=if a1≤a0 then (some (decide (a0≤a2))) else (some false)
set_option maxHeartbeats 8000000 in
set_option maxRecDepth 100000 in
theorem impl_within.calls (a0:Int) (a1:Int) (a2:Int) (r:Bool) (w:World) (h:impl_within.f a0 a1 a2=some r) :
  Calls Tryd.prog 40 #[.int .i64 a0,.int .i64 a1,.int .i64 a2] w fun e w'=>e = .returned (.bool r)∧Drawn0 w w':=by
 have H:(if a1≤a0 then (some (decide (a0≤a2))) else (some false))=some r:=h
 clear h
 by_cases c4:a1≤a0
 ·rw [if_pos c4] at H
  have c4b0:decide (a1≤a0)=true:=decide_eq_true c4
  clear c4
  obtain rfl:=Option.some.inj H
  go_enter Tryd.func40,Tryd.ntmps40
  go_wp2
  go_ret
  exact ⟨z2_,z9_⟩
 ·rw [if_neg c4] at H
  have c4b0:decide (a1≤a0)=false:=decide_eq_false c4
  clear c4
  obtain rfl:=Option.some.inj H
  go_enter Tryd.func40,Tryd.ntmps40
  go_wp2
  go_ret
  exact ⟨z2_,z9_⟩


/-! ### impl_isNode: function 39 -/
def impl_isNode.f (a0:Int):Option (Bool):=(impl_within.f a0 1 5).bind fun t164=>(some t164)
set_option maxHeartbeats 8000000 in
set_option maxRecDepth 100000 in
theorem impl_isNode.calls (a0:Int) (r:Bool) (w:World) (h:impl_isNode.f a0=some r) :
  Calls Tryd.prog 39 #[.int .i64 a0] w fun e w'=>e = .returned (.bool r)∧Drawn0 w w':=by
 have H:((impl_within.f a0 1 5).bind fun t164=>(some t164))=some r:=h
 clear h
 replace H:=Option.bind_eq_some_iff.mp H
 obtain ⟨t164,A20,H⟩:=H
 replace H:(some t164)=some r:=H
 have A2:=Aside0.mk A20
 clear A20
 obtain rfl:=Option.some.inj H
 go_enter Tryd.func39,Tryd.ntmps39
 go_wp2_with (first | ((with_reducible refine gc_ 40 ?_);refine gl_ (some 4) Tryd.func40 #[.int .i64 a0,.int .i64 1,.int .i64 5] ?_;(with_reducible refine (impl_within.calls a0 1 5 t164 _ A2.out).mono ?_);rintro e w' ⟨rfl,⟨nd,rfl⟩⟩;refine ⟨_,rfl,?_⟩))
 go_ret
 exact ⟨z2_,z9_⟩


attribute [local go_sem high] eqA57
/-! ### slices_Equal_impl_Token_impl_Token: function 41 -/
def slices_Equal_impl_Token_impl_Token.l0:Nat→List (S57)→List (S57)→Int→Int→Option (Bool)
 | 0,_,_,_,_=>none
 | k+1,x0,x1,x12,x13=>if x13<x12 then (if 0≤x13 then (if x13<(x0.length:Int) then (if x13<(x1.length:Int) then (if (!(((rd_T57 x0 x13).f0) == ((rd_T57 x1 x13).f0)) || (!(((rd_T57 x0 x13).f1) == ((rd_T57 x1 x13).f1))))=true then (some false) else (slices_Equal_impl_Token_impl_Token.l0 k x0 x1 x12 (wrap64 (x13+1)))) else (none)) else (none)) else (none)) else (some true)
def slices_Equal_impl_Token_impl_Token.f (k:Nat) (l0:List (S57)) (l1:List (S57)):Option (Bool):=if (l0.length:Int)=(l1.length:Int) then (slices_Equal_impl_Token_impl_Token.l0 k l0 l1 (l0.length:Int) 0) else (some false)
theorem slices_Equal_impl_Token_impl_Token.mono_l:∀ k,(∀ y0 y1 y2 y3,LeO (slices_Equal_impl_Token_impl_Token.l0 k y0 y1 y2 y3) (slices_Equal_impl_Token_impl_Token.l0 (k+1) y0 y1 y2 y3))
 | 0=>fun _ _ _ _ r h=>by simp [slices_Equal_impl_Token_impl_Token.l0] at h
 | k+1=>by
  have ih0:=slices_Equal_impl_Token_impl_Token.mono_l k
  ·intro y0 y1 y2 y3
   unfold slices_Equal_impl_Token_impl_Token.l0
   repeat' first
   | (with_reducible exact ih0 _ _ _ _)
   | (with_reducible exact LeO.refl _)
   | (with_reducible exact LeO.none _)
   | (with_reducible refine LeO.ite ?_ ?_)
   | (with_reducible refine LeO.bind ?_ (fun _=>?_))
   | exact ih0 _ _ _ _
   | exact LeO.none _
   | refine LeO.ite ?_ ?_
   | refine LeO.bind ?_ (fun _=>?_)
theorem slices_Equal_impl_Token_impl_Token.mono:∀ a0 a1 k,LeO (slices_Equal_impl_Token_impl_Token.f k a0 a1) (slices_Equal_impl_Token_impl_Token.f (k+1) a0 a1):=by
 intro a0 a1 k
 have ih0:=slices_Equal_impl_Token_impl_Token.mono_l k
 unfold slices_Equal_impl_Token_impl_Token.f
 repeat' first
   | (with_reducible exact ih0 _ _ _ _)
   | (with_reducible exact LeO.refl _)
   | (with_reducible exact LeO.none _)
   | (with_reducible refine LeO.ite ?_ ?_)
   | (with_reducible refine LeO.bind ?_ (fun _=>?_))
   | exact ih0 _ _ _ _
   | exact LeO.none _
   | refine LeO.ite ?_ ?_
   | refine LeO.bind ?_ (fun _=>?_)
set_option maxHeartbeats 8000000 in
set_option maxRecDepth 100000 in
theorem slices_Equal_impl_Token_impl_Token.calls (k:Nat) (A0:Option Addr) (c0:Nat) (l0:List (S57)) (A1:Option Addr) (c1:Nat) (l1:List (S57)) (r:Bool) (w:World) (hr0:Kd.C k57 w A0 l0.length l0) (hc0:l0.length≤c0) (hr1:Kd.C k57 w A1 l1.length l1) (hc1:l1.length≤c1) (h:slices_Equal_impl_Token_impl_Token.f k l0 l1=some r) :
  Calls Tryd.prog 41 #[.slice A0 l0.length c0,.slice A1 l1.length c1] w fun e w'=>e = .returned (.bool r)∧Drawn0 w w':=by
 have hu57:=Tryd.underlying57
 have HR0:=Aside0.mk hr0
 have HC0:=Aside0.mk hc0
 clear hr0 hc0
 have HR1:=Aside0.mk hr1
 have HC1:=Aside0.mk hc1
 clear hr1 hc1
 have H:(if (l0.length:Int)=(l1.length:Int) then (slices_Equal_impl_Token_impl_Token.l0 k l0 l1 (l0.length:Int) 0) else (some false))=some r:=h
 clear h
 by_cases c3:(l0.length:Int)=(l1.length:Int)
 ·rw [if_pos c3] at H
  have c3b0:((l0.length:Int) == (l1.length:Int))=true:=beq_iff_eq.mpr c3
  have c3b1:((l0.length:Int) != (l1.length:Int))=false:=bne_eq_false_iff_eq.mpr c3
  have c3b2:(l0.length == l1.length)=true:=by first | simpa using c3 | (simp at c3 ⊢;omega)
  clear c3
  have H':=Aside0.mk H
  clear H
  go_enter Tryd.func41,Tryd.ntmps41
  go_wp2
  repeat (go_quiet (fail);try go_wp2)
  go_loopg [13] k (fun kq v13 w'=>∃ (x13_1:Int),v13 = .int .i64 x13_1∧Aside0 (slices_Equal_impl_Token_impl_Token.l0 kq l0 l1 (l0.length:Int) x13_1=some r)∧Aside0 (kq≤k)∧Drawn0 w w')
  case atStart=>exact ⟨(0),(z2_),H',⟨Nat.le_refl _⟩,z9_⟩
  case round =>
   clear H'
   try clear c1
   try clear p2
   try clear c3
   try clear c3b0
   try clear c3b1
   try clear c3b2
   obtain ⟨x13_1,rfl,HA,HK1,⟨m1,rfl⟩⟩:=hrel
   cases gk with
   | zero=>exact absurd HA.out (by simp [slices_Equal_impl_Token_impl_Token.l0])
   | succ k1 =>
    have H:=HA.out
    clear HA
    simp only [slices_Equal_impl_Token_impl_Token.l0] at H
    by_cases c4:x13_1<(l0.length:Int)
    ·rw [if_pos c4] at H
     have c4b0:decide (x13_1<(l0.length:Int))=true:=decide_eq_true c4
     clear c4
     by_cases c5:0≤x13_1
     ·rw [if_pos c5] at H
      have c5b0:decide (0≤x13_1)=true:=decide_eq_true c5
      clear c5
      by_cases c6:x13_1<(l0.length:Int)
      ·rw [if_pos c6] at H
       have c6b0:decide (x13_1<(l0.length:Int))=true:=decide_eq_true c6
       clear c6
       by_cases c7:x13_1<(l1.length:Int)
       ·rw [if_pos c7] at H
        have c7b0:decide (x13_1<(l1.length:Int))=true:=decide_eq_true c7
        clear c7
        by_cases c8:(!(((rd_T57 l0 x13_1).f0) == ((rd_T57 l1 x13_1).f0)) || (!(((rd_T57 l0 x13_1).f1) == ((rd_T57 l1 x13_1).f1))))=true
        ·rw [if_pos c8] at H
         have c8b0:(!(((rd_T57 l0 x13_1).f0) == ((rd_T57 l1 x13_1).f0)) || (!(((rd_T57 l0 x13_1).f1) == ((rd_T57 l1 x13_1).f1))))=true:=c8
         clear c8
         obtain rfl:=Option.some.inj H
         have p165:0≤(x13_1:Int):=of_decide_eq_true (z0_)
         have q165:x13_1<(l0.length:Int):=of_decide_eq_true (z0_)
         obtain ⟨ad165,e165,hx165_0,hx165_1⟩:=at_T57 HR0.out x13_1 p165 q165
         cases e165
         replace p165:=eq_true p165
         replace q165:=eq_true q165
         have p166:0≤(x13_1:Int):=of_decide_eq_true (z0_)
         have q166:x13_1<(l1.length:Int):=of_decide_eq_true (z0_)
         obtain ⟨ad166,e166,hx166_0,hx166_1⟩:=at_T57 HR1.out x13_1 p166 q166
         cases e166
         replace p166:=eq_true p166
         replace q166:=eq_true q166
         go_wp2
         repeat (go_quiet (fail);try go_wp2)
         go_ret
         exact ⟨z2_,z9_⟩
        ·rw [if_neg c8] at H
         have c8b0:(!(((rd_T57 l0 x13_1).f0) == ((rd_T57 l1 x13_1).f0)) || (!(((rd_T57 l0 x13_1).f1) == ((rd_T57 l1 x13_1).f1))))=false:=by simpa using c8
         clear c8
         have H':=Aside0.mk H
         clear H
         have p165:0≤(x13_1:Int):=of_decide_eq_true (z0_)
         have q165:x13_1<(l0.length:Int):=of_decide_eq_true (z0_)
         obtain ⟨ad165,e165,hx165_0,hx165_1⟩:=at_T57 HR0.out x13_1 p165 q165
         cases e165
         replace p165:=eq_true p165
         replace q165:=eq_true q165
         have p166:0≤(x13_1:Int):=of_decide_eq_true (z0_)
         have q166:x13_1<(l1.length:Int):=of_decide_eq_true (z0_)
         obtain ⟨ad166,e166,hx166_0,hx166_1⟩:=at_T57 HR1.out x13_1 p166 q166
         cases e166
         replace p166:=eq_true p166
         replace q166:=eq_true q166
         go_wp2
         repeat (go_quiet (fail);try go_wp2)
         go_roundg k1
         case measure=>have:=HK1.out;omega
         case rel=>exact ⟨(wrap64 (x13_1+1)),(z2_),H',⟨by have:=HK1.out;omega⟩,z9_⟩
       ·rw [if_neg c7] at H
        exact absurd H (by simp)
      ·rw [if_neg c6] at H
       exact absurd H (by simp)
     ·rw [if_neg c5] at H
      exact absurd H (by simp)
    ·rw [if_neg c4] at H
     have c4b0:decide (x13_1<(l0.length:Int))=false:=decide_eq_false c4
     clear c4
     obtain rfl:=Option.some.inj H
     go_wp2
     repeat (go_quiet (fail);try go_wp2)
     go_ret
     exact ⟨z2_,z9_⟩
 ·rw [if_neg c3] at H
  have c3b0:((l0.length:Int) == (l1.length:Int))=false:=beq_eq_false_iff_ne.mpr c3
  have c3b1:((l0.length:Int) != (l1.length:Int))=true:=bne_iff_ne.mpr c3
  have c3b2:(l0.length == l1.length)=false:=by first | simpa using c3 | (simp at c3 ⊢;omega)
  obtain rfl:=Option.some.inj H
  go_enter Tryd.func41,Tryd.ntmps41
  go_wp2
  repeat (go_quiet (fail);try go_wp2)
  go_ret
  exact ⟨z2_,z9_⟩


/-! ### impl_RingRight: function 13 -/
def impl_RingRight.f (k:Nat) (a0_0:Int) (l0_1:List (S57)):Option (Bool):=(impl_isNode.f a0_0).bind fun t271=>(if t271=true then (if a0_0=0 then (none) else ((impl_within.f (wrap64 ((l0_1.length:Int) / a0_0)) 1 8).bind fun t272=>(if t272=true then ((impl_ringNew.f k a0_0 (wrap64 ((l0_1.length:Int) / a0_0))).bind fun bt273=>((slices_Equal_impl_Token_impl_Token.f k l0_1 bt273.2).bind fun t277=>(some t277))) else (some false)))) else (some false))
theorem impl_RingRight.mono:∀ a0 a1 k,LeO (impl_RingRight.f k a0 a1) (impl_RingRight.f (k+1) a0 a1):=by
 intro a0 a1 k
 unfold impl_RingRight.f
 repeat' first
   | (with_reducible exact impl_ringNew.mono _ _ _)
   | (with_reducible exact slices_Equal_impl_Token_impl_Token.mono _ _ _)
   | (with_reducible exact LeO.refl _)
   | (with_reducible exact LeO.none _)
   | (with_reducible refine LeO.ite ?_ ?_)
   | (with_reducible refine LeO.bind ?_ (fun _=>?_))
   | exact impl_ringNew.mono _ _ _
   | exact slices_Equal_impl_Token_impl_Token.mono _ _ _
   | exact LeO.none _
   | refine LeO.ite ?_ ?_
   | refine LeO.bind ?_ (fun _=>?_)
def impl_RingRight.T4:Bool × List (List Nat × List Nat):=(true,[([],[]),([0],[0]),([1,1],[1]),([2],[2]),([3,2],[2,3]),([2],[2]),([5,2],[2,5]),([2],[2]),([6,7,2,2],[2,6,7]),([8,2],[2,8]),([4,9,8,2],[2,4,9]),([2,10],[2,10]),([11,10,0,1,2,3,4,5,6,7,8,9,10,11],[11])])
def impl_RingRight.B4:List Nat:=[0,1,3,7,15,7,39,7,231,487,1023,2047,4095]
theorem impl_RingRight.tab4:rtab .any (opsOf Tryd.f13 4)=impl_RingRight.T4:=by kernel_rfl
theorem impl_RingRight.bits4:waitsOk impl_RingRight.T4.2 impl_RingRight.B4=true:=by kernel_rfl
abbrev impl_RingRight.q0:Array Bool:=#[O,O,O,O,O,O,O,O,O,O,O,O,O]
abbrev impl_RingRight.q1:Array Bool:=#[I,O,O,O,O,O,O,O,O,O,O,O,O]
abbrev impl_RingRight.q2:Array Bool:=#[I,I,O,O,O,O,O,O,O,O,O,O,O]
abbrev impl_RingRight.q3:Array Bool:=#[I,I,I,O,O,O,O,O,O,O,O,O,O]
abbrev impl_RingRight.q4:Array Bool:=#[I,I,I,I,O,O,O,O,O,O,O,O,O]
abbrev impl_RingRight.q5:Array Bool:=#[I,I,I,I,I,I,I,I,O,O,O,O,O]
abbrev impl_RingRight.q6:Array Bool:=#[I,I,I,I,I,I,I,I,I,O,O,O,O]
abbrev impl_RingRight.q7:Array Bool:=#[I,I,I,I,I,I,I,I,I,I,O,O,O]
abbrev impl_RingRight.q8:Array Bool:=#[I,I,I,I,I,I,I,I,I,I,I,O,O]
abbrev impl_RingRight.q9:Array Bool:=#[I,I,I,I,I,I,I,I,I,I,I,I,O]
abbrev impl_RingRight.q10:Array Bool:=#[I,I,I,I,I,I,I,I,I,I,I,I,I]
set_option maxHeartbeats 8000000 in
set_option maxRecDepth 100000 in
theorem impl_RingRight.calls (k:Nat) (a0_0:Int) (A0_1:Option Addr) (c0_1:Nat) (l0_1:List (S57)) (r:Bool) (w:World) (hr0_1:Kd.C k57 w A0_1 l0_1.length l0_1) (hc0_1:l0_1.length≤c0_1) (h:impl_RingRight.f k a0_0 l0_1=some r) :
  Calls Tryd.prog 13 #[.agg #[.int .i64 a0_0,.slice A0_1 l0_1.length c0_1]] w fun e w'=>e = .returned (.bool r)∧Below w.heap.size w w':=by
 have hu29:=Tryd.underlying29
 have hfd29:∀ (a:Int) (v:Value) (w:World),(Instr.field 29 (.agg #[.int .i64 a,v]) 1).run Tryd.prog w = .ok v w:=fun _ _ _=>by kernel_rfl
 have HR0_1:=Aside0.mk hr0_1
 have HC0_1:=Aside0.mk hc0_1
 clear hr0_1 hc0_1
 have HB:=Aside0.mk (Below.refl w.heap.size w)
 have H:((impl_isNode.f a0_0).bind fun t271=>(if t271=true then (if a0_0=0 then (none) else ((impl_within.f (wrap64 ((l0_1.length:Int) / a0_0)) 1 8).bind fun t272=>(if t272=true then ((impl_ringNew.f k a0_0 (wrap64 ((l0_1.length:Int) / a0_0))).bind fun bt273=>((slices_Equal_impl_Token_impl_Token.f k l0_1 bt273.2).bind fun t277=>(some t277))) else (some false)))) else (some false)))=some r:=h
 clear h
 replace H:=Option.bind_eq_some_iff.mp H
 obtain ⟨t271,A20,H⟩:=H
 replace H:(if t271=true then (if a0_0=0 then (none) else ((impl_within.f (wrap64 ((l0_1.length:Int) / a0_0)) 1 8).bind fun t272=>(if t272=true then ((impl_ringNew.f k a0_0 (wrap64 ((l0_1.length:Int) / a0_0))).bind fun bt273=>((slices_Equal_impl_Token_impl_Token.f k l0_1 bt273.2).bind fun t277=>(some t277))) else (some false)))) else (some false))=some r:=H
 have A2:=Aside0.mk A20
 clear A20
 by_cases c3:t271=true
 ·subst c3
  have H1:(if a0_0=0 then (none) else ((impl_within.f (wrap64 ((l0_1.length:Int) / a0_0)) 1 8).bind fun t272=>(if t272=true then ((impl_ringNew.f k a0_0 (wrap64 ((l0_1.length:Int) / a0_0))).bind fun bt273=>((slices_Equal_impl_Token_impl_Token.f k l0_1 bt273.2).bind fun t277=>(some t277))) else (some false))))=some r:=by rw [if_pos rfl] at H;exact H
  clear H
  have H:=H1
  clear H1
  by_cases c4:a0_0=0
  ·rw [if_pos c4] at H
   exact absurd H (by simp)
  ·rw [if_neg c4] at H
   have c4b0:(a0_0 == 0)=false:=beq_eq_false_iff_ne.mpr c4
   have c4b1:(a0_0 != 0)=true:=bne_iff_ne.mpr c4
   replace H:=Option.bind_eq_some_iff.mp H
   obtain ⟨t272,A50,H⟩:=H
   replace H:(if t272=true then ((impl_ringNew.f k a0_0 (wrap64 ((l0_1.length:Int) / a0_0))).bind fun bt273=>((slices_Equal_impl_Token_impl_Token.f k l0_1 bt273.2).bind fun t277=>(some t277))) else (some false))=some r:=H
   have A5:=Aside0.mk A50
   clear A50
   by_cases c6:t272=true
   ·subst c6
    have H1:((impl_ringNew.f k a0_0 (wrap64 ((l0_1.length:Int) / a0_0))).bind fun bt273=>((slices_Equal_impl_Token_impl_Token.f k l0_1 bt273.2).bind fun t277=>(some t277)))=some r:=by rw [if_pos rfl] at H;exact H
    clear H
    have H:=H1
    clear H1
    replace H:=Option.bind_eq_some_iff.mp H
    obtain ⟨⟨t273,t274⟩,A70,H⟩:=H
    replace H:((slices_Equal_impl_Token_impl_Token.f k l0_1 t274).bind fun t277=>(some t277))=some r:=H
    have A7:=Aside0.mk A70
    clear A70
    replace H:=Option.bind_eq_some_iff.mp H
    obtain ⟨t277,A80,H⟩:=H
    replace H:(some t277)=some r:=H
    have A8:=Aside0.mk A80
    clear A80
    obtain rfl:=Option.some.inj H
    go_enter Tryd.func13,Tryd.ntmps13
    try go_wp2_with (first | ((with_reducible refine gd_ 1 ?_);refine be_ 1 #[.int .i64 a0_0,.slice A0_1 l0_1.length c0_1] 29 ?_;intro gb270 hg w9 hbox hb;refine as4_ (below_step (z3_ HB.out) hb) (hbox) ((z7_ HB.out:w.heap.size≤gb270)) ((z7_ HB.out:w.heap.size≤gb270)) ?_;clear HB;intro HB BK270 GW270 GE270;clear hb hbox hg;have ⟨hcz10_0,hcz10_1,hfz10_0,hfz10_1⟩:=cz2_ BK270.out) | ((with_reducible refine gc_ 39 ?_);refine gl_ (some 6) Tryd.func39 #[.int .i64 a0_0] ?_;(with_reducible refine (impl_isNode.calls a0_0 true _ A2.out).mono ?_);rintro e w' ⟨rfl,⟨nd,rfl⟩⟩;refine ⟨_,rfl,?_⟩))
    (try (rw [drewN_self w9];generalize hq_:World.drewN w9 _=w9;have n0_:Aside0 (w9.heap[gb270]? = some (.cells #[.int .i64 a0_0,.slice A0_1 l0_1.length c0_1] 29 (0,0))):=⟨by rw [← hq_];exact (by (with_reducible repeat (first | refine blk_drewN ?_ _ | refine blk_drew ?_ | refine blk_alloc ?_ _));exact BK270.out)⟩;have n1_:Aside0 (Below w.heap.size w w9):=⟨by rw [← hq_];exact (by repeat (first | (with_reducible first | exact HB.out | apply below_alloc | apply pw_below_drewN | apply below_drew1 | refine below_set ?_ GE270.out) | exact HB.out))⟩;clear BK270 HB hq_;have BK270:=n0_;have HB:=n1_;clear n0_ n1_))
    refine as2_ (blk_drew BK270.out) (below_drew1 HB.out) ?_
    clear BK270 HB
    intro BK270 HB
    refine start_ (n:=13) (S:=fun w'=>w'.cell? ⟨gb270,0,none⟩=some (.int .i64 a0_0)∧w'.cell? ⟨gb270,1,none⟩=some (.slice A0_1 l0_1.length c0_1)) (ds:=[]) impl_RingRight.q0 (by kernel_rfl) rfl rfl (cc2_ BK270.out) (fun hHeld=>?_);refine with_tabW impl_RingRight.tab4 impl_RingRight.bits4 (fun HT_ HW_=>?_)
    generalize w9.drew=w11 at BK270 HB hHeld ⊢
    refine pu_ 0 14 impl_RingRight.q1 HT_.out ?_
    refine o1_ 1 15 impl_RingRight.q2 HT_.out (fun K hK=>?_)
    refine gs_ Tryd.func40 #[.int .i64 (wrap64 ((l0_1.length:Int) / a0_0)),.int .i64 1,.int .i64 8] ?_
    with_reducible refine (impl_within.calls (wrap64 ((l0_1.length:Int) / a0_0)) 1 8 true _ A5.out).mono ?_
    rintro e w' ⟨rfl,⟨nd,rfl⟩⟩
    refine ⟨_,rfl,?_⟩
    refine hK.out _ _ (cc2_ BK270.out) (fun hHeld=>?_)
    clear hK K
    refine nm_ 15 ?_
    refine pu_ 2 16 impl_RingRight.q3 HT_.out ?_
    refine pu_ 3 17 impl_RingRight.q4 HT_.out ?_
    refine pu_ 5 19 #[I,I,I,I,O,I,O,O,O,O,O,O,O] HT_.out ?_
    refine pu_ 7 21 #[I,I,I,I,O,I,O,I,O,O,O,O,O] HT_.out ?_
    refine tk2_ 4 18 #[I,I,I,I,I,I,O,I,O,O,O,O,O] HT_.out HW_.out hHeld ?_
    refine tk2_ 6 20 impl_RingRight.q5 HT_.out HW_.out hHeld ?_
    refine o1_ 8 22 impl_RingRight.q6 HT_.out (fun K hK=>?_)
    refine gs_ Tryd.func42 #[.int .i64 a0_0,.int .i64 (wrap64 ((l0_1.length:Int) / a0_0))] ?_
    with_reducible refine (impl_ringNew.calls k a0_0 (wrap64 ((l0_1.length:Int) / a0_0)) t273 t274 _ A7.out).mono ?_
    rintro e w12 ⟨v275,rfl,ho0,hb⟩
    refine ⟨_,rfl,?_⟩
    refine as3_ (Kd.R_lower ho0 (below_size (z10_ HB.out GE270.out))) (blkB_ BK270.out hb) (below_step (z10_ HB.out GE270.out) hb) ?_
    clear BK270 HB
    intro HO276 BK270 HB
    (try clear hb)
    (try clear ho0)
    obtain ⟨Ao13,co13,eo13⟩:=Kd.R_slice HO276.out
    (first | subst eo13 | (injection eo13 with f1_ f2_ f3_;have f4_:=f1_.symm;have f5_:=f3_.symm;clear f1_ f2_ f3_;subst f4_;subst f5_))
    refine hK.out _ _ (cc2_ BK270.out) (fun hHeld=>?_)
    clear hK K
    refine nm_ 22 ?_
    refine pu_ 9 23 impl_RingRight.q7 HT_.out ?_
    refine o1_ 10 24 impl_RingRight.q8 HT_.out (fun K hK=>?_)
    refine gs_ Tryd.func41 #[.slice A0_1 l0_1.length c0_1,.slice Ao13 t274.length co13] ?_
    with_reducible refine (slices_Equal_impl_Token_impl_Token.calls k _ _ l0_1 _ _ t274 t277 _ ?s1 ?s2 ?s3 ?s4 A8.out).mono ?_
    (case s1=>repeat (first | exact (Kd.C_below HR0_1.out HB.out) | (with_reducible refine Kd.C_alloc ?_ _) | (with_reducible refine Kd.C_drewN ?_ _) | (with_reducible refine Kd.C_drew ?_)))
    (case s2=>exact HC0_1.out)
    (case s3=>repeat (first | exact (Kd.R_reads' HO276.out).2.2 | (with_reducible refine Kd.C_alloc ?_ _) | (with_reducible refine Kd.C_drewN ?_ _) | (with_reducible refine Kd.C_drew ?_)))
    (case s4=>exact (Kd.R_reads' HO276.out).2.1)
    rintro e w' ⟨rfl,⟨nd,rfl⟩⟩
    refine ⟨_,rfl,?_⟩
    refine hK.out _ _ (cc2_ BK270.out) (fun hHeld=>?_)
    clear hK K
    refine nm_ 24 ?_
    refine pu_ 11 25 impl_RingRight.q9 HT_.out ?_
    refine pu_ 12 2 impl_RingRight.q10 HT_.out ?_
    refine done_ (done_of HT_.out (by kernel_rfl)) ?_
    try go_wp2
    go_ret
    exact ⟨z8_,z10_ HB.out GE270.out⟩
   ·replace c6:=Bool.eq_false_iff.mpr c6
    subst c6
    have H1:(some false)=some r:=by rw [if_neg (show ¬ (false=true) by decide)] at H;exact H
    clear H
    have H:=H1
    clear H1
    obtain rfl:=Option.some.inj H
    go_enter Tryd.func13,Tryd.ntmps13
    try go_wp2_with (first | ((with_reducible refine gd_ 1 ?_);refine be_ 1 #[.int .i64 a0_0,.slice A0_1 l0_1.length c0_1] 29 ?_;intro gb270 hg w14 hbox hb;refine as4_ (below_step (z3_ HB.out) hb) (hbox) ((z7_ HB.out:w.heap.size≤gb270)) ((z7_ HB.out:w.heap.size≤gb270)) ?_;clear HB;intro HB BK270 GW270 GE270;clear hb hbox hg;have ⟨hcz15_0,hcz15_1,hfz15_0,hfz15_1⟩:=cz2_ BK270.out) | ((with_reducible refine gc_ 39 ?_);refine gl_ (some 6) Tryd.func39 #[.int .i64 a0_0] ?_;(with_reducible refine (impl_isNode.calls a0_0 true _ A2.out).mono ?_);rintro e w' ⟨rfl,⟨nd,rfl⟩⟩;refine ⟨_,rfl,?_⟩))
    (try (rw [drewN_self w14];generalize hq_:World.drewN w14 _=w14;have n0_:Aside0 (w14.heap[gb270]? = some (.cells #[.int .i64 a0_0,.slice A0_1 l0_1.length c0_1] 29 (0,0))):=⟨by rw [← hq_];exact (by (with_reducible repeat (first | refine blk_drewN ?_ _ | refine blk_drew ?_ | refine blk_alloc ?_ _));exact BK270.out)⟩;have n1_:Aside0 (Below w.heap.size w w14):=⟨by rw [← hq_];exact (by repeat (first | (with_reducible first | exact HB.out | apply below_alloc | apply pw_below_drewN | apply below_drew1 | refine below_set ?_ GE270.out) | exact HB.out))⟩;clear BK270 HB hq_;have BK270:=n0_;have HB:=n1_;clear n0_ n1_))
    refine as2_ (blk_drew BK270.out) (below_drew1 HB.out) ?_
    clear BK270 HB
    intro BK270 HB
    refine start_ (n:=13) (S:=fun w'=>True) (ds:=[]) impl_RingRight.q0 (by kernel_rfl) rfl rfl trivial (fun hHeld=>?_);refine with_tabW impl_RingRight.tab4 impl_RingRight.bits4 (fun HT_ HW_=>?_)
    generalize w14.drew=w16 at BK270 HB hHeld ⊢
    refine pu_ 0 14 impl_RingRight.q1 HT_.out ?_
    refine o1_ 1 15 impl_RingRight.q2 HT_.out (fun K hK=>?_)
    refine gs_ Tryd.func40 #[.int .i64 (wrap64 ((l0_1.length:Int) / a0_0)),.int .i64 1,.int .i64 8] ?_
    with_reducible refine (impl_within.calls (wrap64 ((l0_1.length:Int) / a0_0)) 1 8 false _ A5.out).mono ?_
    rintro e w' ⟨rfl,⟨nd,rfl⟩⟩
    refine ⟨_,rfl,?_⟩
    refine hK.out _ _ trivial (fun hHeld=>?_)
    clear hK K
    refine nm_ 15 ?_
    refine pu_ 2 16 impl_RingRight.q3 HT_.out ?_
    refine pn_ 3 17 impl_RingRight.q4 HT_.out ?_
    refine pn_ 4 18 #[I,I,I,I,I,O,O,O,O,O,O,O,O] HT_.out ?_
    refine pn_ 5 19 #[I,I,I,I,I,I,O,O,O,O,O,O,O] HT_.out ?_
    refine pn_ 6 20 #[I,I,I,I,I,I,I,O,O,O,O,O,O] HT_.out ?_
    refine pn_ 7 21 impl_RingRight.q5 HT_.out ?_
    refine pn_ 8 22 impl_RingRight.q6 HT_.out ?_
    refine pn_ 9 23 impl_RingRight.q7 HT_.out ?_
    refine pn_ 10 24 impl_RingRight.q8 HT_.out ?_
    refine pu_ 11 25 impl_RingRight.q9 HT_.out ?_
    refine pu_ 12 2 impl_RingRight.q10 HT_.out ?_
    refine done_ (done_of HT_.out (by kernel_rfl)) ?_
    try go_wp2
    go_ret
    exact ⟨z8_,z10_ HB.out GE270.out⟩
 ·replace c3:=Bool.eq_false_iff.mpr c3
  subst c3
  have H1:(some false)=some r:=by rw [if_neg (show ¬ (false=true) by decide)] at H;exact H
  clear H
  have H:=H1
  clear H1
  obtain rfl:=Option.some.inj H
  go_enter Tryd.func13,Tryd.ntmps13
  go_wp2_with (first | ((with_reducible refine gd_ 1 ?_);refine be_ 1 #[.int .i64 a0_0,.slice A0_1 l0_1.length c0_1] 29 ?_;intro gb270 hg w17 hbox hb;refine as4_ (below_step (z3_ HB.out) hb) (hbox) ((z7_ HB.out:w.heap.size≤gb270)) ((z7_ HB.out:w.heap.size≤gb270)) ?_;clear HB;intro HB BK270 GW270 GE270;clear hb hbox hg;have ⟨hcz18_0,hcz18_1,hfz18_0,hfz18_1⟩:=cz2_ BK270.out) | ((with_reducible refine gc_ 39 ?_);refine gl_ (some 6) Tryd.func39 #[.int .i64 a0_0] ?_;(with_reducible refine (impl_isNode.calls a0_0 false _ A2.out).mono ?_);rintro e w' ⟨rfl,⟨nd,rfl⟩⟩;refine ⟨_,rfl,?_⟩))
  go_ret
  exact ⟨z8_,z10_ HB.out GE270.out⟩


/-! ### impl_RingMore: function 21 -/
def impl_RingMore.f (k:Nat) (a0_0:Int) (l0_1:List (S57)):Option (Int × (List (S57)) × Int):=(impl_RingRight.f k a0_0 l0_1).bind fun t368=>(if t368=true then (if a0_0=5 then (some (0,([]:List (S57)),9)) else (if a0_0=0 then (none) else ((impl_ringNew.f k (wrap64 (a0_0+1)) (wrap64 ((l0_1.length:Int) / a0_0))).bind fun bt369=>(some (bt369.1,bt369.2,0))))) else (some (0,([]:List (S57)),1)))
theorem impl_RingMore.mono:∀ a0 a1 k,LeO (impl_RingMore.f k a0 a1) (impl_RingMore.f (k+1) a0 a1):=by
 intro a0 a1 k
 unfold impl_RingMore.f
 repeat' first
   | (with_reducible exact impl_RingRight.mono _ _ _)
   | (with_reducible exact impl_ringNew.mono _ _ _)
   | (with_reducible exact LeO.refl _)
   | (with_reducible exact LeO.none _)
   | (with_reducible refine LeO.ite ?_ ?_)
   | (with_reducible refine LeO.bind ?_ (fun _=>?_))
   | exact impl_RingRight.mono _ _ _
   | exact impl_ringNew.mono _ _ _
   | exact LeO.none _
   | refine LeO.ite ?_ ?_
   | refine LeO.bind ?_ (fun _=>?_)
def impl_RingMore.T5:Bool × List (List Nat × List Nat):=(true,[([],[]),([0],[0]),([1],[1]),([],[]),([3],[3]),([4],[4]),([],[]),([6],[6]),([5,7],[5,7]),([2,8],[2,8]),([9],[9]),([10,9,0,1,2,3,4,5,6,7,8,9,10],[10])])
def impl_RingMore.B5:List Nat:=[0,1,3,0,8,24,0,64,248,511,1023,2047]
theorem impl_RingMore.tab5:rtab .any (opsOf Tryd.f21 5)=impl_RingMore.T5:=by kernel_rfl
theorem impl_RingMore.bits5:waitsOk impl_RingMore.T5.2 impl_RingMore.B5=true:=by kernel_rfl
set_option maxHeartbeats 8000000 in
set_option maxRecDepth 100000 in
theorem impl_RingMore.calls (k:Nat) (a0_0:Int) (A0_1:Option Addr) (c0_1:Nat) (l0_1:List (S57)) (r1:Int) (r2:List (S57)) (r3:Int) (w:World) (hr0_1:Kd.C k57 w A0_1 l0_1.length l0_1) (hc0_1:l0_1.length≤c0_1) (h:impl_RingMore.f k a0_0 l0_1=some (r1,r2,r3)) :
  Calls Tryd.prog 21 #[.agg #[.int .i64 a0_0,.slice A0_1 l0_1.length c0_1]] w fun e w'=>∃ v1_:Value,e = .returned (.agg #[.int .i64 r1,v1_,.int .i64 r3])∧Kd.R k57 57 w' w.heap.size (fun _=>True) v1_ r2∧Below w.heap.size w w':=by
 have hu29:=Tryd.underlying29
 have hu34:=Tryd.underlying34
 have HR0_1:=Aside0.mk hr0_1
 have HC0_1:=Aside0.mk hc0_1
 clear hr0_1 hc0_1
 have HB:=Aside0.mk (Below.refl w.heap.size w)
 have H:((impl_RingRight.f k a0_0 l0_1).bind fun t368=>(if t368=true then (if a0_0=5 then (some (0,([]:List (S57)),9)) else (if a0_0=0 then (none) else ((impl_ringNew.f k (wrap64 (a0_0+1)) (wrap64 ((l0_1.length:Int) / a0_0))).bind fun bt369=>(some (bt369.1,bt369.2,0))))) else (some (0,([]:List (S57)),1))))=some (r1,r2,r3):=h
 clear h
 replace H:=Option.bind_eq_some_iff.mp H
 obtain ⟨t368,A20,H⟩:=H
 replace H:(if t368=true then (if a0_0=5 then (some (0,([]:List (S57)),9)) else (if a0_0=0 then (none) else ((impl_ringNew.f k (wrap64 (a0_0+1)) (wrap64 ((l0_1.length:Int) / a0_0))).bind fun bt369=>(some (bt369.1,bt369.2,0))))) else (some (0,([]:List (S57)),1)))=some (r1,r2,r3):=H
 have A2:=Aside0.mk A20
 clear A20
 by_cases c3:t368=true
 ·subst c3
  have H1:(if a0_0=5 then (some (0,([]:List (S57)),9)) else (if a0_0=0 then (none) else ((impl_ringNew.f k (wrap64 (a0_0+1)) (wrap64 ((l0_1.length:Int) / a0_0))).bind fun bt369=>(some (bt369.1,bt369.2,0)))))=some (r1,r2,r3):=by rw [if_pos rfl] at H;exact H
  clear H
  have H:=H1
  clear H1
  by_cases c4:a0_0=5
  ·rw [if_pos c4] at H
   have c4b0:(a0_0 == 5)=true:=beq_iff_eq.mpr c4
   have c4b1:(a0_0 != 5)=false:=bne_eq_false_iff_eq.mpr c4
   clear c4
   simp only [Option.some.injEq,Prod.mk.injEq] at H
   obtain ⟨rfl,rfl,rfl⟩:=H
   go_enter Tryd.func21,Tryd.ntmps21
   go_wp2_with (first | ((with_reducible refine gd_ 1 ?_);refine be_ 1 #[.int .i64 a0_0,.slice A0_1 l0_1.length c0_1] 29 ?_;intro gb366 hg w5 hbox hb;refine as4_ (below_step (z3_ HB.out) hb) (hbox) ((z7_ HB.out:w.heap.size≤gb366)) ((z7_ HB.out:w.heap.size≤gb366)) ?_;clear HB;intro HB BK366 GW366 GE366;clear hb hbox hg) | ((with_reducible refine gd_ 2 ?_);refine be_ 2 #[.int .i64 0,.slice none 0 0,.int .i64 0] 34 ?_;intro gb367 hg w6 hbox hb;refine as7_ (blkB_ BK366.out hb) (below_step (z10_ HB.out GE366.out) hb) (hbox) ((z12_ HB.out GE366.out:w.heap.size≤gb367)) ((z12_ HB.out GE366.out:w.heap.size≤gb367)) (neL_ BK366.out hg) (neG_ BK366.out hg) ?_;clear BK366 HB;intro BK366 HB BK367 GW367 GE367 NB366_367 NB367_366;clear hb hbox hg;have hnb7:=NB366_367.out;have hnc7:=NB367_366.out;have ⟨hcz8_0,hcz8_1,hfz8_0,hfz8_1⟩:=cz2_ BK366.out) | ((with_reducible refine gc_ 13 ?_);refine gl_ (some 5) Tryd.func13 #[.agg #[.int .i64 a0_0,.slice A0_1 l0_1.length c0_1]] ?_;(with_reducible refine (impl_RingRight.calls k a0_0 _ _ l0_1 true _ ?s1 ?s2 A2.out).mono ?_);(case s1=>repeat (first | exact (Kd.C_below HR0_1.out HB.out) | (with_reducible refine Kd.C_alloc ?_ _) | (with_reducible refine Kd.C_drewN ?_ _) | (with_reducible refine Kd.C_drew ?_)));(case s2=>exact HC0_1.out);rintro e w9 ⟨rfl,hb⟩;refine ⟨_,rfl,?_⟩;refine as3_ (blkB_ BK366.out hb) (blkB_ BK367.out hb) (below_step (z6_ HB.out GE366.out GE367.out) hb) ?_;clear BK366 BK367 HB;intro BK366 BK367 HB;(try clear hb);have ⟨hcz10_0,hcz10_1,hfz10_0,hfz10_1⟩:=cz2_ BK366.out;have ⟨hcz11_0,hcz11_1,hcz11_2,hfz11_0,hfz11_1,hfz11_2⟩:=cz3_ BK367.out))
   refine bodyPost_ret (results_cell_row rfl _ _ gb367 34 #[.int .i64 0,.slice none 0 0,.int .i64 9] (0,0) _ rfl (z19_ BK367.out) Tryd.underlying34 rfl (by kernel_rfl)) rfl ?_
   exact ⟨_,z8_,z27_,z6_ HB.out GE366.out GE367.out⟩
  ·rw [if_neg c4] at H
   have c4b0:(a0_0 == 5)=false:=beq_eq_false_iff_ne.mpr c4
   have c4b1:(a0_0 != 5)=true:=bne_iff_ne.mpr c4
   by_cases c12:a0_0=0
   ·rw [if_pos c12] at H
    exact absurd H (by simp)
   ·rw [if_neg c12] at H
    have c12b0:(a0_0 == 0)=false:=beq_eq_false_iff_ne.mpr c12
    have c12b1:(a0_0 != 0)=true:=bne_iff_ne.mpr c12
    replace H:=Option.bind_eq_some_iff.mp H
    obtain ⟨⟨t369,t370⟩,A130,H⟩:=H
    replace H:(some (t369,t370,0))=some (r1,r2,r3):=H
    have A13:=Aside0.mk A130
    clear A130
    simp only [Option.some.injEq,Prod.mk.injEq] at H
    obtain ⟨rfl,rfl,rfl⟩:=H
    go_enter Tryd.func21,Tryd.ntmps21
    try go_wp2_with (first | ((with_reducible refine gd_ 1 ?_);refine be_ 1 #[.int .i64 a0_0,.slice A0_1 l0_1.length c0_1] 29 ?_;intro gb366 hg w14 hbox hb;refine as4_ (below_step (z3_ HB.out) hb) (hbox) ((z7_ HB.out:w.heap.size≤gb366)) ((z7_ HB.out:w.heap.size≤gb366)) ?_;clear HB;intro HB BK366 GW366 GE366;clear hb hbox hg) | ((with_reducible refine gd_ 2 ?_);refine be_ 2 #[.int .i64 0,.slice none 0 0,.int .i64 0] 34 ?_;intro gb367 hg w15 hbox hb;refine as7_ (blkB_ BK366.out hb) (below_step (z10_ HB.out GE366.out) hb) (hbox) ((z12_ HB.out GE366.out:w.heap.size≤gb367)) ((z12_ HB.out GE366.out:w.heap.size≤gb367)) (neL_ BK366.out hg) (neG_ BK366.out hg) ?_;clear BK366 HB;intro BK366 HB BK367 GW367 GE367 NB366_367 NB367_366;clear hb hbox hg;have hnb16:=NB366_367.out;have hnc16:=NB367_366.out;have ⟨hcz17_0,hcz17_1,hfz17_0,hfz17_1⟩:=cz2_ BK366.out) | ((with_reducible refine gc_ 13 ?_);refine gl_ (some 5) Tryd.func13 #[.agg #[.int .i64 a0_0,.slice A0_1 l0_1.length c0_1]] ?_;(with_reducible refine (impl_RingRight.calls k a0_0 _ _ l0_1 true _ ?s1 ?s2 A2.out).mono ?_);(case s1=>repeat (first | exact (Kd.C_below HR0_1.out HB.out) | (with_reducible refine Kd.C_alloc ?_ _) | (with_reducible refine Kd.C_drewN ?_ _) | (with_reducible refine Kd.C_drew ?_)));(case s2=>exact HC0_1.out);rintro e w18 ⟨rfl,hb⟩;refine ⟨_,rfl,?_⟩;refine as3_ (blkB_ BK366.out hb) (blkB_ BK367.out hb) (below_step (z6_ HB.out GE366.out GE367.out) hb) ?_;clear BK366 BK367 HB;intro BK366 BK367 HB;(try clear hb);have ⟨hcz19_0,hcz19_1,hfz19_0,hfz19_1⟩:=cz2_ BK366.out))
    refine as3_ (blk_drew BK366.out) (blk_drew BK367.out) (below_drew1 HB.out) ?_
    clear BK366 BK367 HB
    intro BK366 BK367 HB
    refine start_ (n:=12) (S:=fun w'=>w'.cell? ⟨gb366,0,none⟩=some (.int .i64 a0_0)∧w'.cell? ⟨gb366,1,none⟩=some (.slice A0_1 l0_1.length c0_1)) (ds:=[]) #[O,O,O,O,O,O,O,O,O,O,O,O] (by kernel_rfl) rfl rfl (cc2_ BK366.out) (fun hHeld=>?_);refine with_tabW impl_RingMore.tab5 impl_RingMore.bits5 (fun HT_ HW_=>?_)
    generalize w18.drew=w20 at BK366 BK367 HB hHeld ⊢
    refine pu_ 0 13 #[I,O,O,O,O,O,O,O,O,O,O,O] HT_.out ?_
    refine pu_ 3 16 #[I,O,O,I,O,O,O,O,O,O,O,O] HT_.out ?_
    refine pu_ 6 19 #[I,O,O,I,O,O,I,O,O,O,O,O] HT_.out ?_
    refine tk2_ 1 14 #[I,I,O,I,O,O,I,O,O,O,O,O] HT_.out HW_.out hHeld ?_
    refine pu_ 2 15 #[I,I,I,I,O,O,I,O,O,O,O,O] HT_.out ?_
    refine tk2_ 4 17 #[I,I,I,I,I,O,I,O,O,O,O,O] HT_.out HW_.out hHeld ?_
    refine pu_ 5 18 #[I,I,I,I,I,I,I,O,O,O,O,O] HT_.out ?_
    refine tk2_ 7 20 #[I,I,I,I,I,I,I,I,O,O,O,O] HT_.out HW_.out hHeld ?_
    refine pu_ 8 21 #[I,I,I,I,I,I,I,I,I,O,O,O] HT_.out ?_
    refine o1_ 9 22 #[I,I,I,I,I,I,I,I,I,I,O,O] HT_.out (fun K hK=>?_)
    refine gs_ Tryd.func42 #[.int .i64 (wrap64 (a0_0+1)),.int .i64 (wrap64 ((l0_1.length:Int) / a0_0))] ?_
    with_reducible refine (impl_ringNew.calls k (wrap64 (a0_0+1)) (wrap64 ((l0_1.length:Int) / a0_0)) t369 t370 _ A13.out).mono ?_
    rintro e w21 ⟨v371,rfl,ho0,hb⟩
    refine ⟨_,rfl,?_⟩
    refine as4_ (Kd.R_lower ho0 (below_size (z6_ HB.out GE366.out GE367.out))) (blkB_ BK366.out hb) (blkB_ BK367.out hb) (below_step (z6_ HB.out GE366.out GE367.out) hb) ?_
    clear BK366 BK367 HB
    intro HO372 BK366 BK367 HB
    (try clear hb)
    (try clear ho0)
    obtain ⟨Ao22,co22,eo22⟩:=Kd.R_slice HO372.out
    (first | subst eo22 | (injection eo22 with f1_ f2_ f3_;have f4_:=f1_.symm;have f5_:=f3_.symm;clear f1_ f2_ f3_;subst f4_;subst f5_))
    refine hK.out _ _ (cc2_ BK366.out) (fun hHeld=>?_)
    clear hK K
    refine nm_ 22 ?_
    refine pu_ 10 23 #[I,I,I,I,I,I,I,I,I,I,I,O] HT_.out ?_
    refine one_ (i:=11) (N:=none) #[I,I,I,I,I,I,I,I,I,I,I,I] rfl rfl (one_of HT_.out (by kernel_rfl)) (by decide) (fun K hK=>?_)
    have hs23:w21.cell? ⟨gb367,0,none⟩=some (.int .i64 0):=(blk_cell BK367.out 0).trans rfl
    have hfs23:=blk_frozen BK367.out 0
    have hns23_0:=NB366_367.out
    have hms23_0:=NB367_366.out
    have hs24:w21.cell? ⟨gb367,1,none⟩=some (.slice none 0 0):=(blk_cell BK367.out 1).trans rfl
    have hfs24:=blk_frozen BK367.out 1
    have hns24_0:=NB366_367.out
    have hms24_0:=NB367_366.out
    have hs25:w21.cell? ⟨gb367,2,none⟩=some (.int .i64 0):=(blk_cell BK367.out 2).trans rfl
    have hfs25:=blk_frozen BK367.out 2
    have hns25_0:=NB366_367.out
    have hms25_0:=NB367_366.out
    refine skip_ (w1:=?_) (by rfl) rfl ?_ ?_
    rotate_left
    ·go_simp
     rfl
    refine hK.out _ _ ⟨((cell_far (p:=⟨gb367,_,none⟩) NB366_367.out _).trans (((cell_far (p:=⟨gb367,_,none⟩) NB366_367.out _).trans (((cell_far (p:=⟨gb367,_,none⟩) NB366_367.out _).trans (hHeld.1)))))),((cell_far (p:=⟨gb367,_,none⟩) NB366_367.out _).trans (((cell_far (p:=⟨gb367,_,none⟩) NB366_367.out _).trans (((cell_far (p:=⟨gb367,_,none⟩) NB366_367.out _).trans (hHeld.2))))))⟩ (fun hHeld=>?_)
    clear hK K
    refine done_ (done_of HT_.out (by kernel_rfl)) ?_
    try go_wp2
    refine bodyPost_ret (results_cell_row rfl _ _ gb367 34 #[.int .i64 t369,.slice Ao22 t370.length co22,.int .i64 0] (0,0) _ rfl (z19_ BK367.out) Tryd.underlying34 rfl (by kernel_rfl)) rfl ?_
    exact ⟨_,z8_,by (with_reducible repeat (first | apply Kd.R_alloc | apply Kd.R_drewN | apply Kd.R_drew));exact Kd.R_mono (rf3_ (Kd.R_types HO372.out BK367.out (by decide)) (fun _ hk=>hk.2)) (fun _ hk=>trivial),z6_ HB.out GE366.out GE367.out⟩
 ·replace c3:=Bool.eq_false_iff.mpr c3
  subst c3
  have H1:(some (0,([]:List (S57)),1))=some (r1,r2,r3):=by rw [if_neg (show ¬ (false=true) by decide)] at H;exact H
  clear H
  have H:=H1
  clear H1
  simp only [Option.some.injEq,Prod.mk.injEq] at H
  obtain ⟨rfl,rfl,rfl⟩:=H
  go_enter Tryd.func21,Tryd.ntmps21
  go_wp2_with (first | ((with_reducible refine gd_ 1 ?_);refine be_ 1 #[.int .i64 a0_0,.slice A0_1 l0_1.length c0_1] 29 ?_;intro gb366 hg w26 hbox hb;refine as4_ (below_step (z3_ HB.out) hb) (hbox) ((z7_ HB.out:w.heap.size≤gb366)) ((z7_ HB.out:w.heap.size≤gb366)) ?_;clear HB;intro HB BK366 GW366 GE366;clear hb hbox hg) | ((with_reducible refine gd_ 2 ?_);refine be_ 2 #[.int .i64 0,.slice none 0 0,.int .i64 0] 34 ?_;intro gb367 hg w27 hbox hb;refine as7_ (blkB_ BK366.out hb) (below_step (z10_ HB.out GE366.out) hb) (hbox) ((z12_ HB.out GE366.out:w.heap.size≤gb367)) ((z12_ HB.out GE366.out:w.heap.size≤gb367)) (neL_ BK366.out hg) (neG_ BK366.out hg) ?_;clear BK366 HB;intro BK366 HB BK367 GW367 GE367 NB366_367 NB367_366;clear hb hbox hg;have hnb28:=NB366_367.out;have hnc28:=NB367_366.out;have ⟨hcz29_0,hcz29_1,hfz29_0,hfz29_1⟩:=cz2_ BK366.out) | ((with_reducible refine gc_ 13 ?_);refine gl_ (some 5) Tryd.func13 #[.agg #[.int .i64 a0_0,.slice A0_1 l0_1.length c0_1]] ?_;(with_reducible refine (impl_RingRight.calls k a0_0 _ _ l0_1 false _ ?s1 ?s2 A2.out).mono ?_);(case s1=>repeat (first | exact (Kd.C_below HR0_1.out HB.out) | (with_reducible refine Kd.C_alloc ?_ _) | (with_reducible refine Kd.C_drewN ?_ _) | (with_reducible refine Kd.C_drew ?_)));(case s2=>exact HC0_1.out);rintro e w30 ⟨rfl,hb⟩;refine ⟨_,rfl,?_⟩;refine as3_ (blkB_ BK366.out hb) (blkB_ BK367.out hb) (below_step (z6_ HB.out GE366.out GE367.out) hb) ?_;clear BK366 BK367 HB;intro BK366 BK367 HB;(try clear hb);have ⟨hcz31_0,hcz31_1,hcz31_2,hfz31_0,hfz31_1,hfz31_2⟩:=cz3_ BK367.out))
  refine bodyPost_ret (results_cell_row rfl _ _ gb367 34 #[.int .i64 0,.slice none 0 0,.int .i64 1] (0,0) _ rfl (z19_ BK367.out) Tryd.underlying34 rfl (by kernel_rfl)) rfl ?_
  exact ⟨_,z8_,z27_,z6_ HB.out GE366.out GE367.out⟩


/-! ### laws_FnExactRingMore: function 5 -/
def laws_FnExactRingMore.j0:Nat→Bool→Int→List (S75)→Int→List (S57)→Int→Int→List (S57)→Int→Option (Bool)
 | 0,_,_,_,_,_,_,_,_,_=>none
 | k+1,x42,x374000,x374001,x385000,x385001,x385002,x396000,x396001,x396002=>if x42=true then (none) else ((laws_markRingOut.f k x396000 x396001 x396002 1).bind fun bt405=>((laws_heldRingOut.f k x396000 bt405.2 x396002 1).bind fun t407=>(if t407<0 then (none) else (if t407=bt405.1 then ((laws_toRing.f k x374000 x374001).bind fun bt408=>((impl_RingMore.f k bt408.1 bt408.2).bind fun bt412=>((laws_eqRingOut.f k bt412.1 bt412.2.1 bt412.2.2 x385000 x385001 x385002).bind fun t418=>(if t418=true then ((laws_heldRingOut.f k x396000 bt405.2 x396002 1).bind fun t419=>(if t419<0 then (none) else (if t419=bt405.1 then (some true) else (none)))) else (none))))) else (none)))))
def laws_FnExactRingMore.f (k:Nat) (a0_0:Int) (l0_1:List (S75)):Option (Bool):=(laws_szRing.f a0_0 l0_1 1048576).bind fun t374=>(if t374<0 then (some true) else ((laws_toRing.f k a0_0 l0_1).bind fun bt375=>((spec_RingMore.f k bt375.1 bt375.2).bind fun bt379=>((laws_toRing.f k a0_0 l0_1).bind fun bt385=>((impl_RingMore.f k bt385.1 bt385.2).bind fun bt390=>((laws_eqRingOut.f k bt390.1 bt390.2.1 bt390.2.2 bt379.1 bt379.2.1 bt379.2.2).bind fun t396=>(if t396=true then ((laws_toRing.f k a0_0 l0_1).bind fun bt397=>((laws_eqRing.f k bt385.1 bt385.2 bt397.1 bt397.2).bind fun t401=>(if t401=true then ((laws_markRing.f k bt385.1 bt385.2 1).bind fun bt402=>(if bt402.1<0 then (laws_FnExactRingMore.j0 k true a0_0 l0_1 bt379.1 bt379.2.1 bt379.2.2 bt390.1 bt390.2.1 bt390.2.2) else ((laws_eqRingOut.f k bt390.1 bt390.2.1 bt390.2.2 bt379.1 bt379.2.1 bt379.2.2).bind fun t404=>(laws_FnExactRingMore.j0 k (!t404) a0_0 l0_1 bt379.1 bt379.2.1 bt379.2.2 bt390.1 bt390.2.1 bt390.2.2)))) else (none)))) else (none))))))))
theorem laws_FnExactRingMore.mono_l:∀ k,(∀ y0 y1 y2 y3 y4 y5 y6 y7 y8,LeO (laws_FnExactRingMore.j0 k y0 y1 y2 y3 y4 y5 y6 y7 y8) (laws_FnExactRingMore.j0 (k+1) y0 y1 y2 y3 y4 y5 y6 y7 y8))
 | 0=>fun _ _ _ _ _ _ _ _ _ r h=>by simp [laws_FnExactRingMore.j0] at h
 | k+1=>by
  have ih0:=laws_FnExactRingMore.mono_l k
  ·intro y0 y1 y2 y3 y4 y5 y6 y7 y8
   unfold laws_FnExactRingMore.j0
   repeat' first
   | (with_reducible exact ih0 _ _ _ _ _ _ _ _ _)
   | (with_reducible exact impl_RingMore.mono _ _ _)
   | (with_reducible exact laws_eqRing.mono _ _ _ _ _)
   | (with_reducible exact laws_eqRingOut.mono _ _ _ _ _ _ _)
   | (with_reducible exact laws_heldRingOut.mono _ _ _ _ _)
   | (with_reducible exact laws_markRing.mono _ _ _ _)
   | (with_reducible exact laws_markRingOut.mono _ _ _ _ _)
   | (with_reducible exact laws_toRing.mono _ _ _)
   | (with_reducible exact spec_RingMore.mono _ _ _)
   | (with_reducible exact LeO.refl _)
   | (with_reducible exact LeO.none _)
   | (with_reducible refine LeO.ite ?_ ?_)
   | (with_reducible refine LeO.bind ?_ (fun _=>?_))
   | exact ih0 _ _ _ _ _ _ _ _ _
   | exact impl_RingMore.mono _ _ _
   | exact laws_eqRing.mono _ _ _ _ _
   | exact laws_eqRingOut.mono _ _ _ _ _ _ _
   | exact laws_heldRingOut.mono _ _ _ _ _
   | exact laws_markRing.mono _ _ _ _
   | exact laws_markRingOut.mono _ _ _ _ _
   | exact laws_toRing.mono _ _ _
   | exact spec_RingMore.mono _ _ _
   | exact LeO.none _
   | refine LeO.ite ?_ ?_
   | refine LeO.bind ?_ (fun _=>?_)
theorem laws_FnExactRingMore.mono:∀ a0 a1 k,LeO (laws_FnExactRingMore.f k a0 a1) (laws_FnExactRingMore.f (k+1) a0 a1):=by
 intro a0 a1 k
 have ih0:=laws_FnExactRingMore.mono_l k
 unfold laws_FnExactRingMore.f
 repeat' first
   | (with_reducible exact ih0 _ _ _ _ _ _ _ _ _)
   | (with_reducible exact impl_RingMore.mono _ _ _)
   | (with_reducible exact laws_eqRing.mono _ _ _ _ _)
   | (with_reducible exact laws_eqRingOut.mono _ _ _ _ _ _ _)
   | (with_reducible exact laws_heldRingOut.mono _ _ _ _ _)
   | (with_reducible exact laws_markRing.mono _ _ _ _)
   | (with_reducible exact laws_markRingOut.mono _ _ _ _ _)
   | (with_reducible exact laws_toRing.mono _ _ _)
   | (with_reducible exact spec_RingMore.mono _ _ _)
   | (with_reducible exact LeO.refl _)
   | (with_reducible exact LeO.none _)
   | (with_reducible refine LeO.ite ?_ ?_)
   | (with_reducible refine LeO.bind ?_ (fun _=>?_))
   | exact ih0 _ _ _ _ _ _ _ _ _
   | exact impl_RingMore.mono _ _ _
   | exact laws_eqRing.mono _ _ _ _ _
   | exact laws_eqRingOut.mono _ _ _ _ _ _ _
   | exact laws_heldRingOut.mono _ _ _ _ _
   | exact laws_markRing.mono _ _ _ _
   | exact laws_markRingOut.mono _ _ _ _ _
   | exact laws_toRing.mono _ _ _
   | exact spec_RingMore.mono _ _ _
   | exact LeO.none _
   | refine LeO.ite ?_ ?_
   | refine LeO.bind ?_ (fun _=>?_)
set_option maxHeartbeats 8000000 in
set_option maxRecDepth 100000 in
theorem laws_FnExactRingMore.calls (k:Nat) (a0_0:Int) (A0_1:Option Addr) (c0_1:Nat) (l0_1:List (S75)) (r:Bool) (w:World) (hr0_1:Kd.C k75 w A0_1 l0_1.length l0_1) (hc0_1:l0_1.length≤c0_1) (h:laws_FnExactRingMore.f k a0_0 l0_1=some r) :
  Calls Tryd.prog 5 #[.agg #[.int .i64 a0_0,.slice A0_1 l0_1.length c0_1]] w fun e w'=>e = .returned (.bool r)∧Below w.heap.size w w':=by
 have hu24:=Tryd.underlying24
 have hu34:=Tryd.underlying34
 have hu29:=Tryd.underlying29
 have HR0_1:=Aside0.mk hr0_1
 have HC0_1:=Aside0.mk hc0_1
 clear hr0_1 hc0_1
 have HB:=Aside0.mk (Below.refl w.heap.size w)
 have H:((laws_szRing.f a0_0 l0_1 1048576).bind fun t374=>(if t374<0 then (some true) else ((laws_toRing.f k a0_0 l0_1).bind fun bt375=>((spec_RingMore.f k bt375.1 bt375.2).bind fun bt379=>((laws_toRing.f k a0_0 l0_1).bind fun bt385=>((impl_RingMore.f k bt385.1 bt385.2).bind fun bt390=>((laws_eqRingOut.f k bt390.1 bt390.2.1 bt390.2.2 bt379.1 bt379.2.1 bt379.2.2).bind fun t396=>(if t396=true then ((laws_toRing.f k a0_0 l0_1).bind fun bt397=>((laws_eqRing.f k bt385.1 bt385.2 bt397.1 bt397.2).bind fun t401=>(if t401=true then ((laws_markRing.f k bt385.1 bt385.2 1).bind fun bt402=>(if bt402.1<0 then (laws_FnExactRingMore.j0 k true a0_0 l0_1 bt379.1 bt379.2.1 bt379.2.2 bt390.1 bt390.2.1 bt390.2.2) else ((laws_eqRingOut.f k bt390.1 bt390.2.1 bt390.2.2 bt379.1 bt379.2.1 bt379.2.2).bind fun t404=>(laws_FnExactRingMore.j0 k (!t404) a0_0 l0_1 bt379.1 bt379.2.1 bt379.2.2 bt390.1 bt390.2.1 bt390.2.2)))) else (none)))) else (none)))))))))=some r:=h
 clear h
 replace H:=Option.bind_eq_some_iff.mp H
 obtain ⟨t374,A20,H⟩:=H
 replace H:(if t374<0 then (some true) else ((laws_toRing.f k a0_0 l0_1).bind fun bt375=>((spec_RingMore.f k bt375.1 bt375.2).bind fun bt379=>((laws_toRing.f k a0_0 l0_1).bind fun bt385=>((impl_RingMore.f k bt385.1 bt385.2).bind fun bt390=>((laws_eqRingOut.f k bt390.1 bt390.2.1 bt390.2.2 bt379.1 bt379.2.1 bt379.2.2).bind fun t396=>(if t396=true then ((laws_toRing.f k a0_0 l0_1).bind fun bt397=>((laws_eqRing.f k bt385.1 bt385.2 bt397.1 bt397.2).bind fun t401=>(if t401=true then ((laws_markRing.f k bt385.1 bt385.2 1).bind fun bt402=>(if bt402.1<0 then (laws_FnExactRingMore.j0 k true a0_0 l0_1 bt379.1 bt379.2.1 bt379.2.2 bt390.1 bt390.2.1 bt390.2.2) else ((laws_eqRingOut.f k bt390.1 bt390.2.1 bt390.2.2 bt379.1 bt379.2.1 bt379.2.2).bind fun t404=>(laws_FnExactRingMore.j0 k (!t404) a0_0 l0_1 bt379.1 bt379.2.1 bt379.2.2 bt390.1 bt390.2.1 bt390.2.2)))) else (none)))) else (none))))))))=some r:=H
 have A2:=Aside0.mk A20
 clear A20
 by_cases c3:t374<0
 ·rw [if_pos c3] at H
  have c3b0:decide (t374<0)=true:=decide_eq_true c3
  clear c3
  obtain rfl:=Option.some.inj H
  go_enter Tryd.func5,Tryd.ntmps5
  go_wp2_with (first | ((with_reducible refine gd_ 1 ?_);refine be_ 1 #[.int .i64 a0_0,.slice A0_1 l0_1.length c0_1] 24 ?_;intro gb373 hg w4 hbox hb;refine as4_ (below_step (z3_ HB.out) hb) (hbox) ((z7_ HB.out:w.heap.size≤gb373)) ((z7_ HB.out:w.heap.size≤gb373)) ?_;clear HB;intro HB BK373 GW373 GE373;clear hb hbox hg;have ⟨hcz5_0,hcz5_1,hfz5_0,hfz5_1⟩:=cz2_ BK373.out) | ((with_reducible refine gc_ 10 ?_);refine gl_ (some 13) Tryd.func10 #[.agg #[.int .i64 a0_0,.slice A0_1 l0_1.length c0_1],.int .i64 1048576] ?_;(with_reducible refine (laws_szRing.calls a0_0 _ _ l0_1 1048576 t374 _ ?s1 ?s2 A2.out).mono ?_);(case s1=>repeat (first | exact (Kd.C_below HR0_1.out HB.out) | (with_reducible refine Kd.C_alloc ?_ _) | (with_reducible refine Kd.C_drewN ?_ _) | (with_reducible refine Kd.C_drew ?_)));(case s2=>exact HC0_1.out);rintro e w6 ⟨rfl,hb⟩;refine ⟨_,rfl,?_⟩;refine as2_ (blkB_ BK373.out hb) (below_step (z10_ HB.out GE373.out) hb) ?_;clear BK373 HB;intro BK373 HB;(try clear hb)))
  go_ret
  exact ⟨z8_,z10_ HB.out GE373.out⟩
 ·rw [if_neg c3] at H
  have c3b0:decide (t374<0)=false:=decide_eq_false c3
  clear c3
  replace H:=Option.bind_eq_some_iff.mp H
  obtain ⟨⟨t375,t376⟩,A70,H⟩:=H
  replace H:((spec_RingMore.f k t375 t376).bind fun bt379=>((laws_toRing.f k a0_0 l0_1).bind fun bt385=>((impl_RingMore.f k bt385.1 bt385.2).bind fun bt390=>((laws_eqRingOut.f k bt390.1 bt390.2.1 bt390.2.2 bt379.1 bt379.2.1 bt379.2.2).bind fun t396=>(if t396=true then ((laws_toRing.f k a0_0 l0_1).bind fun bt397=>((laws_eqRing.f k bt385.1 bt385.2 bt397.1 bt397.2).bind fun t401=>(if t401=true then ((laws_markRing.f k bt385.1 bt385.2 1).bind fun bt402=>(if bt402.1<0 then (laws_FnExactRingMore.j0 k true a0_0 l0_1 bt379.1 bt379.2.1 bt379.2.2 bt390.1 bt390.2.1 bt390.2.2) else ((laws_eqRingOut.f k bt390.1 bt390.2.1 bt390.2.2 bt379.1 bt379.2.1 bt379.2.2).bind fun t404=>(laws_FnExactRingMore.j0 k (!t404) a0_0 l0_1 bt379.1 bt379.2.1 bt379.2.2 bt390.1 bt390.2.1 bt390.2.2)))) else (none)))) else (none))))))=some r:=H
  have A7:=Aside0.mk A70
  clear A70
  replace H:=Option.bind_eq_some_iff.mp H
  obtain ⟨⟨t379,t380,t383⟩,A80,H⟩:=H
  replace H:((laws_toRing.f k a0_0 l0_1).bind fun bt385=>((impl_RingMore.f k bt385.1 bt385.2).bind fun bt390=>((laws_eqRingOut.f k bt390.1 bt390.2.1 bt390.2.2 t379 t380 t383).bind fun t396=>(if t396=true then ((laws_toRing.f k a0_0 l0_1).bind fun bt397=>((laws_eqRing.f k bt385.1 bt385.2 bt397.1 bt397.2).bind fun t401=>(if t401=true then ((laws_markRing.f k bt385.1 bt385.2 1).bind fun bt402=>(if bt402.1<0 then (laws_FnExactRingMore.j0 k true a0_0 l0_1 t379 t380 t383 bt390.1 bt390.2.1 bt390.2.2) else ((laws_eqRingOut.f k bt390.1 bt390.2.1 bt390.2.2 t379 t380 t383).bind fun t404=>(laws_FnExactRingMore.j0 k (!t404) a0_0 l0_1 t379 t380 t383 bt390.1 bt390.2.1 bt390.2.2)))) else (none)))) else (none)))))=some r:=H
  have A8:=Aside0.mk A80
  clear A80
  replace H:=Option.bind_eq_some_iff.mp H
  obtain ⟨⟨t385,t386⟩,A90,H⟩:=H
  replace H:((impl_RingMore.f k t385 t386).bind fun bt390=>((laws_eqRingOut.f k bt390.1 bt390.2.1 bt390.2.2 t379 t380 t383).bind fun t396=>(if t396=true then ((laws_toRing.f k a0_0 l0_1).bind fun bt397=>((laws_eqRing.f k t385 t386 bt397.1 bt397.2).bind fun t401=>(if t401=true then ((laws_markRing.f k t385 t386 1).bind fun bt402=>(if bt402.1<0 then (laws_FnExactRingMore.j0 k true a0_0 l0_1 t379 t380 t383 bt390.1 bt390.2.1 bt390.2.2) else ((laws_eqRingOut.f k bt390.1 bt390.2.1 bt390.2.2 t379 t380 t383).bind fun t404=>(laws_FnExactRingMore.j0 k (!t404) a0_0 l0_1 t379 t380 t383 bt390.1 bt390.2.1 bt390.2.2)))) else (none)))) else (none))))=some r:=H
  have A9:=Aside0.mk A90
  clear A90
  replace H:=Option.bind_eq_some_iff.mp H
  obtain ⟨⟨t390,t391,t394⟩,A100,H⟩:=H
  replace H:((laws_eqRingOut.f k t390 t391 t394 t379 t380 t383).bind fun t396=>(if t396=true then ((laws_toRing.f k a0_0 l0_1).bind fun bt397=>((laws_eqRing.f k t385 t386 bt397.1 bt397.2).bind fun t401=>(if t401=true then ((laws_markRing.f k t385 t386 1).bind fun bt402=>(if bt402.1<0 then (laws_FnExactRingMore.j0 k true a0_0 l0_1 t379 t380 t383 t390 t391 t394) else ((laws_eqRingOut.f k t390 t391 t394 t379 t380 t383).bind fun t404=>(laws_FnExactRingMore.j0 k (!t404) a0_0 l0_1 t379 t380 t383 t390 t391 t394)))) else (none)))) else (none)))=some r:=H
  have A10:=Aside0.mk A100
  clear A100
  replace H:=Option.bind_eq_some_iff.mp H
  obtain ⟨t396,A110,H⟩:=H
  replace H:(if t396=true then ((laws_toRing.f k a0_0 l0_1).bind fun bt397=>((laws_eqRing.f k t385 t386 bt397.1 bt397.2).bind fun t401=>(if t401=true then ((laws_markRing.f k t385 t386 1).bind fun bt402=>(if bt402.1<0 then (laws_FnExactRingMore.j0 k true a0_0 l0_1 t379 t380 t383 t390 t391 t394) else ((laws_eqRingOut.f k t390 t391 t394 t379 t380 t383).bind fun t404=>(laws_FnExactRingMore.j0 k (!t404) a0_0 l0_1 t379 t380 t383 t390 t391 t394)))) else (none)))) else (none))=some r:=H
  have A11:=Aside0.mk A110
  clear A110
  by_cases c12:t396=true
  ·subst c12
   have H1:((laws_toRing.f k a0_0 l0_1).bind fun bt397=>((laws_eqRing.f k t385 t386 bt397.1 bt397.2).bind fun t401=>(if t401=true then ((laws_markRing.f k t385 t386 1).bind fun bt402=>(if bt402.1<0 then (laws_FnExactRingMore.j0 k true a0_0 l0_1 t379 t380 t383 t390 t391 t394) else ((laws_eqRingOut.f k t390 t391 t394 t379 t380 t383).bind fun t404=>(laws_FnExactRingMore.j0 k (!t404) a0_0 l0_1 t379 t380 t383 t390 t391 t394)))) else (none))))=some r:=by rw [if_pos rfl] at H;exact H
   clear H
   have H:=H1
   clear H1
   replace H:=Option.bind_eq_some_iff.mp H
   obtain ⟨⟨t397,t398⟩,A130,H⟩:=H
   replace H:((laws_eqRing.f k t385 t386 t397 t398).bind fun t401=>(if t401=true then ((laws_markRing.f k t385 t386 1).bind fun bt402=>(if bt402.1<0 then (laws_FnExactRingMore.j0 k true a0_0 l0_1 t379 t380 t383 t390 t391 t394) else ((laws_eqRingOut.f k t390 t391 t394 t379 t380 t383).bind fun t404=>(laws_FnExactRingMore.j0 k (!t404) a0_0 l0_1 t379 t380 t383 t390 t391 t394)))) else (none)))=some r:=H
   have A13:=Aside0.mk A130
   clear A130
   replace H:=Option.bind_eq_some_iff.mp H
   obtain ⟨t401,A140,H⟩:=H
   replace H:(if t401=true then ((laws_markRing.f k t385 t386 1).bind fun bt402=>(if bt402.1<0 then (laws_FnExactRingMore.j0 k true a0_0 l0_1 t379 t380 t383 t390 t391 t394) else ((laws_eqRingOut.f k t390 t391 t394 t379 t380 t383).bind fun t404=>(laws_FnExactRingMore.j0 k (!t404) a0_0 l0_1 t379 t380 t383 t390 t391 t394)))) else (none))=some r:=H
   have A14:=Aside0.mk A140
   clear A140
   by_cases c15:t401=true
   ·subst c15
    have H1:((laws_markRing.f k t385 t386 1).bind fun bt402=>(if bt402.1<0 then (laws_FnExactRingMore.j0 k true a0_0 l0_1 t379 t380 t383 t390 t391 t394) else ((laws_eqRingOut.f k t390 t391 t394 t379 t380 t383).bind fun t404=>(laws_FnExactRingMore.j0 k (!t404) a0_0 l0_1 t379 t380 t383 t390 t391 t394))))=some r:=by rw [if_pos rfl] at H;exact H
    clear H
    have H:=H1
    clear H1
    replace H:=Option.bind_eq_some_iff.mp H
    obtain ⟨⟨t402,t403⟩,A160,H⟩:=H
    replace H:(if t402<0 then (laws_FnExactRingMore.j0 k true a0_0 l0_1 t379 t380 t383 t390 t391 t394) else ((laws_eqRingOut.f k t390 t391 t394 t379 t380 t383).bind fun t404=>(laws_FnExactRingMore.j0 k (!t404) a0_0 l0_1 t379 t380 t383 t390 t391 t394)))=some r:=H
    have A16:=Aside0.mk A160
    clear A160
    have HC17:=Aside0.mk H
    clear H
    go_enter Tryd.func5,Tryd.ntmps5
    try go_wp2_with (first | ((with_reducible refine gd_ 1 ?_);refine be_ 1 #[.int .i64 a0_0,.slice A0_1 l0_1.length c0_1] 24 ?_;intro gb373 hg w18 hbox hb;refine as4_ (below_step (z3_ HB.out) hb) (hbox) ((z7_ HB.out:w.heap.size≤gb373)) ((z7_ HB.out:w.heap.size≤gb373)) ?_;clear HB;intro HB BK373 GW373 GE373;clear hb hbox hg;have ⟨hcz19_0,hcz19_1,hfz19_0,hfz19_1⟩:=cz2_ BK373.out) | ((with_reducible refine gc_ 10 ?_);refine gl_ (some 13) Tryd.func10 #[.agg #[.int .i64 a0_0,.slice A0_1 l0_1.length c0_1],.int .i64 1048576] ?_;(with_reducible refine (laws_szRing.calls a0_0 _ _ l0_1 1048576 t374 _ ?s1 ?s2 A2.out).mono ?_);(case s1=>repeat (first | exact (Kd.C_below HR0_1.out HB.out) | (with_reducible refine Kd.C_alloc ?_ _) | (with_reducible refine Kd.C_drewN ?_ _) | (with_reducible refine Kd.C_drew ?_)));(case s2=>exact HC0_1.out);rintro e w20 ⟨rfl,hb⟩;refine ⟨_,rfl,?_⟩;refine as2_ (blkB_ BK373.out hb) (below_step (z10_ HB.out GE373.out) hb) ?_;clear BK373 HB;intro BK373 HB;(try clear hb);have ⟨hcz21_0,hcz21_1,hfz21_0,hfz21_1⟩:=cz2_ BK373.out) | ((with_reducible refine gc_ 12 ?_);refine gl_ (some 17) Tryd.func12 #[.agg #[.int .i64 a0_0,.slice A0_1 l0_1.length c0_1]] ?_;(with_reducible refine (laws_toRing.calls k a0_0 _ _ l0_1 t375 t376 _ ?s1 ?s2 A7.out).mono ?_);(case s1=>repeat (first | exact (Kd.C_below HR0_1.out HB.out) | (with_reducible refine Kd.C_alloc ?_ _) | (with_reducible refine Kd.C_drewN ?_ _) | (with_reducible refine Kd.C_drew ?_)));(case s2=>exact HC0_1.out);rintro e w22 ⟨v377,rfl,ho0,hb⟩;refine ⟨_,rfl,?_⟩;refine as3_ (Kd.R_lower ho0 (below_size (z10_ HB.out GE373.out))) (blkB_ BK373.out hb) (below_step (z10_ HB.out GE373.out) hb) ?_;clear BK373 HB;intro HO378 BK373 HB;(try clear hb);(try clear ho0);obtain ⟨Ao23,co23,eo23⟩:=Kd.R_slice HO378.out;subst eo23) | ((with_reducible refine gc_ 20 ?_);refine gl_ (some 18) Tryd.func20 #[.agg #[.int .i64 t375,.slice Ao23 t376.length co23]] ?_;(with_reducible refine (spec_RingMore.calls k t375 _ _ t376 t379 t380 t383 _ ?s1 ?s2 A8.out).mono ?_);(case s1=>repeat (first | exact (Kd.R_reads' HO378.out).2.2 | (with_reducible refine Kd.C_alloc ?_ _) | (with_reducible refine Kd.C_drewN ?_ _) | (with_reducible refine Kd.C_drew ?_)));(case s2=>exact (Kd.R_reads' HO378.out).2.1);rintro e w24 ⟨v381,rfl,ho0,hb⟩;refine ⟨_,rfl,?_⟩;refine as4_ (Kd.R_elder' (z1_ HO378.out) (Kd.R_base ho0) hb) (Kd.R_lower (Kd.R_new' ho0 (Kd.R_lt (z1_ HO378.out))) (below_size (z10_ HB.out GE373.out))) (blkB_ BK373.out hb) (below_step (z10_ HB.out GE373.out) hb) ?_;clear HO378 BK373 HB;intro HO378 HO382 BK373 HB;(try clear hb);(try clear ho0)) | ((with_reducible refine gd_ 4 ?_);refine be_ 4 #[.int .i64 0,.slice none 0 0,.int .i64 0] 34 ?_;intro gb384 hg w25 hbox hb;refine as9_ (Kd.R_below (z1_ HO378.out) hb) (Kd.R_below (z1_ HO382.out) hb) (blkB_ BK373.out hb) (below_step (z10_ HB.out GE373.out) hb) (hbox) ((z12_ HB.out GE373.out:w.heap.size≤gb384)) ((z12_ HB.out GE373.out:w.heap.size≤gb384)) (neL_ BK373.out hg) (neG_ BK373.out hg) ?_;clear HO378 HO382 BK373 HB;intro HO378 HO382 BK373 HB BK384 GW384 GE384 NB373_384 NB384_373;clear hb hbox hg;have hnb26:=NB384_373.out;have hnc26:=NB373_384.out;have ⟨hcz27_0,hcz27_1,hcz27_2,hfz27_0,hfz27_1,hfz27_2⟩:=cz3_ BK384.out;obtain ⟨Ao28,co28,eo28⟩:=Kd.R_slice HO382.out;subst eo28;have ⟨hcz29_0,hcz29_1,hfz29_0,hfz29_1⟩:=cz2_ BK373.out) | ((with_reducible refine gc_ 12 ?_);refine gl_ (some 20) Tryd.func12 #[.agg #[.int .i64 a0_0,.slice A0_1 l0_1.length c0_1]] ?_;(with_reducible refine (laws_toRing.calls k a0_0 _ _ l0_1 t385 t386 _ ?s1 ?s2 A9.out).mono ?_);(case s1=>exact Kd.C_below HR0_1.out (z6_ HB.out GE373.out GE384.out));(case s2=>exact HC0_1.out);rintro e w30 ⟨v387,rfl,ho0,hb⟩;refine ⟨_,rfl,?_⟩;refine as6_ (Kd.R_elder' (z14_ HO378.out BK384.out) (Kd.R_base ho0) hb) (Kd.R_elder' (z14_ HO382.out BK384.out) (Kd.R_base ho0) hb) (Kd.R_lower (Kd.R_new' (Kd.R_new' ho0 (Kd.R_lt (z14_ HO378.out BK384.out))) (Kd.R_lt (z14_ HO382.out BK384.out))) (below_size (z6_ HB.out GE373.out GE384.out))) (blk_below (g:=gb373) (o:=.cells #[.int .i64 a0_0,.slice A0_1 l0_1.length c0_1] 24 (0,0)) (z23_ NB373_384.out BK373.out) hb) (blk_below (g:=gb384) (o:=.cells #[.int .i64 t379,.slice Ao28 t380.length co28,.int .i64 t383] 34 (0,0)) (z19_ BK384.out) hb) (below_step (z6_ HB.out GE373.out GE384.out) hb) ?_;clear HO378 HO382 BK373 BK384 HB;intro HO378 HO382 HO388 BK373 BK384 HB;(try clear hb);(try clear hk);(try clear ho0)) | ((with_reducible refine gd_ 5 ?_);refine be_ 5 #[.int .i64 0,.slice none 0 0] 29 ?_;intro gb389 hg w31 hbox hb;refine as13_ (Kd.R_below (z1_ HO378.out) hb) (Kd.R_below (z1_ HO382.out) hb) (Kd.R_below (z1_ HO388.out) hb) (blkB_ BK373.out hb) (blkB_ BK384.out hb) (below_step (z6_ HB.out GE373.out GE384.out) hb) (hbox) ((z17_ HB.out GE373.out GE384.out:w.heap.size≤gb389)) ((z17_ HB.out GE373.out GE384.out:w.heap.size≤gb389)) (neL_ BK373.out hg) (neG_ BK373.out hg) (neL_ BK384.out hg) (neG_ BK384.out hg) ?_;clear HO378 HO382 HO388 BK373 BK384 HB;intro HO378 HO382 HO388 BK373 BK384 HB BK389 GW389 GE389 NB373_389 NB389_373 NB384_389 NB389_384;clear hb hbox hg;have hnb32:=NB389_373.out;have hnc32:=NB373_389.out;have hnb33:=NB389_384.out;have hnc33:=NB384_389.out;have ⟨hcz34_0,hcz34_1,hfz34_0,hfz34_1⟩:=cz2_ BK389.out;obtain ⟨Ao35,co35,eo35⟩:=Kd.R_slice HO388.out;subst eo35) | ((with_reducible refine gc_ 21 ?_);refine gl_ (some 22) Tryd.func21 #[.agg #[.int .i64 t385,.slice Ao35 t386.length co35]] ?_;(with_reducible refine (impl_RingMore.calls k t385 _ _ t386 t390 t391 t394 _ ?s1 ?s2 A10.out).mono ?_);(case s1=>refine (Kd.R_reads' (e:=57) (base:=w.heap.size) (ok:=fun k_=>((True∧some k_≠(.slice Ao23 t376.length co23:Value).ownBlock)∧some k_≠(.slice Ao28 t380.length co28:Value).ownBlock)) (n:=t386.length) (c:=co35) ?_).2.2;exact (z26_ HO388.out BK389.out));(case s2=>exact (Kd.R_reads' HO388.out).2.1);rintro e w36 ⟨v392,rfl,ho0,hb⟩;refine ⟨_,rfl,?_⟩;refine as8_ (Kd.R_elder' (z26_ HO378.out BK389.out) (Kd.R_base ho0) hb) (Kd.R_elder' (z26_ HO382.out BK389.out) (Kd.R_base ho0) hb) (Kd.R_elder' (z26_ HO388.out BK389.out) (Kd.R_base ho0) hb) (Kd.R_lower (Kd.R_new' (Kd.R_new' (Kd.R_new' ho0 (Kd.R_lt (z26_ HO378.out BK389.out))) (Kd.R_lt (z26_ HO382.out BK389.out))) (Kd.R_lt (z26_ HO388.out BK389.out))) (below_size (z11_ HB.out GE373.out GE384.out GE389.out))) (blk_below (g:=gb373) (o:=.cells #[.int .i64 a0_0,.slice A0_1 l0_1.length c0_1] 24 (0,0)) (z24_ NB373_389.out BK373.out) hb) (blk_below (g:=gb384) (o:=.cells #[.int .i64 t379,.slice Ao28 t380.length co28,.int .i64 t383] 34 (0,0)) (z24_ NB384_389.out BK384.out) hb) (blk_below (g:=gb389) (o:=.cells #[.int .i64 t385,.slice Ao35 t386.length co35] 29 (0,0)) (z25_ BK389.out) hb) (below_step (z11_ HB.out GE373.out GE384.out GE389.out) hb) ?_;clear HO378 HO382 HO388 BK373 BK384 BK389 HB;intro HO378 HO382 HO388 HO393 BK373 BK384 BK389 HB;(try clear hb);(try clear hk);(try clear ho0)) | ((with_reducible refine gd_ 6 ?_);refine be_ 6 #[.int .i64 0,.slice none 0 0,.int .i64 0] 34 ?_;intro gb395 hg w37 hbox hb;refine as17_ (Kd.R_below (z1_ HO378.out) hb) (Kd.R_below (z1_ HO382.out) hb) (Kd.R_below (z1_ HO388.out) hb) (Kd.R_below (z1_ HO393.out) hb) (blkB_ BK373.out hb) (blkB_ BK384.out hb) (blkB_ BK389.out hb) (below_step (z11_ HB.out GE373.out GE384.out GE389.out) hb) (hbox) ((by rw [hg];exact (below_size (by repeat (first | (with_reducible first | exact HB.out | apply below_alloc | apply pw_below_drewN | apply below_drew1 | refine below_set ?_ GE373.out | refine below_set ?_ GE384.out | refine below_set ?_ GE389.out) | exact HB.out))):w.heap.size≤gb395)) ((by rw [hg];exact (below_size (by repeat (first | (with_reducible first | exact HB.out | apply below_alloc | apply pw_below_drewN | apply below_drew1 | refine below_set ?_ GE373.out | refine below_set ?_ GE384.out | refine below_set ?_ GE389.out) | exact HB.out))):w.heap.size≤gb395)) (neL_ BK373.out hg) (neG_ BK373.out hg) (neL_ BK384.out hg) (neG_ BK384.out hg) (neL_ BK389.out hg) (neG_ BK389.out hg) ?_;clear HO378 HO382 HO388 HO393 BK373 BK384 BK389 HB;intro HO378 HO382 HO388 HO393 BK373 BK384 BK389 HB BK395 GW395 GE395 NB373_395 NB395_373 NB384_395 NB395_384 NB389_395 NB395_389;clear hb hbox hg;have hnb38:=NB395_373.out;have hnc38:=NB373_395.out;have hnb39:=NB395_384.out;have hnc39:=NB384_395.out;have hnb40:=NB395_389.out;have hnc40:=NB389_395.out;have ⟨hcz41_0,hcz41_1,hcz41_2,hfz41_0,hfz41_1,hfz41_2⟩:=cz3_ BK395.out;obtain ⟨Ao42,co42,eo42⟩:=Kd.R_slice HO393.out;subst eo42;have ⟨hcz43_0,hcz43_1,hcz43_2,hfz43_0,hfz43_1,hfz43_2⟩:=cz3_ BK384.out) | ((with_reducible refine gc_ 17 ?_);refine gl_ (some 25) Tryd.func17 #[.agg #[.int .i64 t390,.slice Ao42 t391.length co42,.int .i64 t394],.agg #[.int .i64 t379,.slice Ao28 t380.length co28,.int .i64 t383]] ?_;(with_reducible refine (laws_eqRingOut.calls k t390 _ _ t391 t394 t379 _ _ t380 t383 true _ ?s1 ?s2 ?s3 ?s4 A11.out).mono ?_);(case s1=>refine (Kd.R_reads' (e:=57) (base:=w.heap.size) (ok:=fun k_=>(((True∧some k_≠(.slice Ao23 t376.length co23:Value).ownBlock)∧some k_≠(.slice Ao28 t380.length co28:Value).ownBlock)∧some k_≠(.slice Ao35 t386.length co35:Value).ownBlock)) (n:=t391.length) (c:=co42) ?_).2.2;exact (z14_ HO393.out BK395.out));(case s2=>exact (Kd.R_reads' HO393.out).2.1);(case s3=>refine (Kd.R_reads' (e:=57) (base:=w.heap.size) (ok:=fun k_=>(((True∧some k_≠(.slice Ao23 t376.length co23:Value).ownBlock)∧some k_≠(.slice Ao35 t386.length co35:Value).ownBlock)∧some k_≠(.slice Ao42 t391.length co42:Value).ownBlock)) (n:=t380.length) (c:=co28) ?_).2.2;exact (z14_ HO382.out BK395.out));(case s4=>exact (Kd.R_reads' HO382.out).2.1);rintro e w44 ⟨rfl,hb⟩;refine ⟨_,rfl,?_⟩;refine as9_ (Kd.R_below (z14_ HO378.out BK395.out) hb) (Kd.R_below (z14_ HO382.out BK395.out) hb) (Kd.R_below (z14_ HO388.out BK395.out) hb) (Kd.R_below (z14_ HO393.out BK395.out) hb) (blk_below (g:=gb373) (o:=.cells #[.int .i64 a0_0,.slice A0_1 l0_1.length c0_1] 24 (0,0)) (z23_ NB373_395.out BK373.out) hb) (blk_below (g:=gb384) (o:=.cells #[.int .i64 t379,.slice Ao28 t380.length co28,.int .i64 t383] 34 (0,0)) (z23_ NB384_395.out BK384.out) hb) (blk_below (g:=gb389) (o:=.cells #[.int .i64 t385,.slice Ao35 t386.length co35] 29 (0,0)) (z23_ NB389_395.out BK389.out) hb) (blk_below (g:=gb395) (o:=.cells #[.int .i64 t390,.slice Ao42 t391.length co42,.int .i64 t394] 34 (0,0)) (z19_ BK395.out) hb) (below_step (z16_ HB.out GE373.out GE384.out GE389.out GE395.out) hb) ?_;clear HO378 HO382 HO388 HO393 BK373 BK384 BK389 BK395 HB;intro HO378 HO382 HO388 HO393 BK373 BK384 BK389 BK395 HB;(try clear hb);(try clear hk)))
    refine as9_ (Kd.R_drew HO378.out) (Kd.R_drew HO382.out) (Kd.R_drew HO388.out) (Kd.R_drew HO393.out) (blk_drew BK373.out) (blk_drew BK384.out) (blk_drew BK389.out) (blk_drew BK395.out) (below_drew1 HB.out) ?_
    clear HO378 HO382 HO388 HO393 BK373 BK384 BK389 BK395 HB
    intro HO378 HO382 HO388 HO393 BK373 BK384 BK389 BK395 HB
    refine start_ (n:=5) (S:=fun w'=>w'.cell? ⟨gb389,0,none⟩=some (.int .i64 t385)∧w'.cell? ⟨gb389,1,none⟩=some (.slice Ao35 t386.length co35)∧w'.cell? ⟨gb373,0,none⟩=some (.int .i64 a0_0)∧w'.cell? ⟨gb373,1,none⟩=some (.slice A0_1 l0_1.length c0_1)) (ds:=[]) #[O,O,O,O,O] (by kernel_rfl) rfl rfl (cj2_ BK389.out (cc2_ BK373.out)) (fun hHeld=>?_)
    generalize w44.drew=w45 at HO378 HO382 HO388 HO393 BK373 BK384 BK389 BK395 HB hHeld ⊢
    refine take_ (i:=0) (N:=some 27) (v:=?_) (a':=?_) #[I,O,O,O,O] rfl rfl (by kernel_rfl) (fun _ _ _ h=>h) (Or.inl ⟨by rfl,?_⟩) hHeld ?_ ?_
    rotate_left
    ·rintro w' ⟨s0,s1,s2,s3⟩
     go_simp
     with_reducible rfl
    rotate_left
    ·simp only [Act.put,sa_,s0_,ss_,i64_w,i32_w]
     rfl
    refine take_ (i:=1) (N:=some 28) (v:=?_) (a':=?_) #[I,I,O,O,O] rfl rfl (by kernel_rfl) (fun _ _ _ h=>h) (Or.inl ⟨by rfl,?_⟩) hHeld ?_ ?_
    rotate_left
    ·rintro w' ⟨s0,s1,s2,s3⟩
     go_simp
     with_reducible rfl
    rotate_left
    ·simp only [Act.put,sa_,s0_,ss_,i64_w,i32_w]
     rfl
    refine one_ (i:=2) (N:=some 29) #[I,I,I,O,O] rfl rfl (by kernel_rfl) (by decide) (fun K hK=>?_)
    refine gs_ Tryd.func12 #[.agg #[.int .i64 a0_0,.slice A0_1 l0_1.length c0_1]] ?_
    with_reducible refine (laws_toRing.calls k a0_0 _ _ l0_1 t397 t398 _ ?s1 ?s2 A13.out).mono ?_
    (case s1=>repeat (first | exact (Kd.C_below HR0_1.out HB.out) | (with_reducible refine Kd.C_alloc ?_ _) | (with_reducible refine Kd.C_drewN ?_ _) | (with_reducible refine Kd.C_drew ?_)))
    (case s2=>exact HC0_1.out)
    rintro e w46 ⟨v399,rfl,ho0,hb⟩
    refine ⟨_,rfl,?_⟩
    refine as10_ (Kd.R_elder' (z1_ HO378.out) (Kd.R_base ho0) hb) (Kd.R_elder' (z1_ HO382.out) (Kd.R_base ho0) hb) (Kd.R_elder' (z1_ HO388.out) (Kd.R_base ho0) hb) (Kd.R_elder' (z1_ HO393.out) (Kd.R_base ho0) hb) (Kd.R_lower (Kd.R_new' (Kd.R_new' (Kd.R_new' (Kd.R_new' ho0 (Kd.R_lt (z1_ HO378.out))) (Kd.R_lt (z1_ HO382.out))) (Kd.R_lt (z1_ HO388.out))) (Kd.R_lt (z1_ HO393.out))) (below_size (z16_ HB.out GE373.out GE384.out GE389.out GE395.out))) (blkB_ BK373.out hb) (blkB_ BK384.out hb) (blkB_ BK389.out hb) (blkB_ BK395.out hb) (below_step (z16_ HB.out GE373.out GE384.out GE389.out GE395.out) hb) ?_
    clear HO378 HO382 HO388 HO393 BK373 BK384 BK389 BK395 HB
    intro HO378 HO382 HO388 HO393 HO400 BK373 BK384 BK389 BK395 HB
    (try clear hb)
    (try clear ho0)
    obtain ⟨Ao47,co47,eo47⟩:=Kd.R_slice HO400.out
    (first | subst eo47 | (injection eo47 with f1_ f2_ f3_;have f4_:=f1_.symm;have f5_:=f3_.symm;clear f1_ f2_ f3_;subst f4_;subst f5_))
    refine hK.out _ _ (cj2_ BK389.out (cc2_ BK373.out)) (fun hHeld=>?_)
    clear hK K
    refine nm_ 29 ?_
    refine one_ (i:=3) (N:=some 30) #[I,I,I,I,O] rfl rfl (by kernel_rfl) (by decide) (fun K hK=>?_)
    refine gs_ Tryd.func14 #[.agg #[.int .i64 t385,.slice Ao35 t386.length co35],.agg #[.int .i64 t397,.slice Ao47 t398.length co47]] ?_
    with_reducible refine (laws_eqRing.calls k t385 _ _ t386 t397 _ _ t398 true _ ?s1 ?s2 ?s3 ?s4 A14.out).mono ?_
    (case s1=>repeat (first | exact (Kd.R_reads' HO388.out).2.2 | (with_reducible refine Kd.C_alloc ?_ _) | (with_reducible refine Kd.C_drewN ?_ _) | (with_reducible refine Kd.C_drew ?_)))
    (case s2=>exact (Kd.R_reads' HO388.out).2.1)
    (case s3=>repeat (first | exact (Kd.R_reads' HO400.out).2.2 | (with_reducible refine Kd.C_alloc ?_ _) | (with_reducible refine Kd.C_drewN ?_ _) | (with_reducible refine Kd.C_drew ?_)))
    (case s4=>exact (Kd.R_reads' HO400.out).2.1)
    rintro e w48 ⟨rfl,hb⟩
    refine ⟨_,rfl,?_⟩
    refine as10_ (Kd.R_below (z1_ HO378.out) hb) (Kd.R_below (z1_ HO382.out) hb) (Kd.R_below (z1_ HO388.out) hb) (Kd.R_below (z1_ HO393.out) hb) (Kd.R_below (z1_ HO400.out) hb) (blkB_ BK373.out hb) (blkB_ BK384.out hb) (blkB_ BK389.out hb) (blkB_ BK395.out hb) (below_step (z16_ HB.out GE373.out GE384.out GE389.out GE395.out) hb) ?_
    clear HO378 HO382 HO388 HO393 HO400 BK373 BK384 BK389 BK395 HB
    intro HO378 HO382 HO388 HO393 HO400 BK373 BK384 BK389 BK395 HB
    (try clear hb)
    refine hK.out _ _ (cj2_ BK389.out (cc2_ BK373.out)) (fun hHeld=>?_)
    clear hK K
    refine nm_ 30 ?_
    refine pure_ (i:=4) (N:=some 31) (v:=?_) (a':=?_) #[I,I,I,I,I] rfl rfl (by kernel_rfl) (fun _ _ _ h=>h) (Or.inl ⟨by rfl,?_⟩) ?_ ?_
    rotate_left
    ·intro w'
     go_simp
     with_reducible rfl
    rotate_left
    ·simp only [Act.put,sa_,s0_,ss_,i64_w,i32_w]
     rfl
    refine done_ (by kernel_rfl) ?_
    have ⟨hcz49_0,hcz49_1,hfz49_0,hfz49_1⟩:=cz2_ BK389.out
    go_upto_region 14 with (first | ((with_reducible refine gc_ 22 ?_);refine gl_ (some 34) Tryd.func22 #[.agg #[.int .i64 t385,.slice Ao35 t386.length co35],.int .i64 1] ?_;(with_reducible refine (laws_markRing.calls k t385 (fun k_=>some k_=(.slice Ao35 t386.length co35:Value).ownBlock) (.slice Ao35 t386.length co35) t386 1 t402 t403 w _ ?s1 ?s2 A16.out).mono ?_);(case s1=>repeat (first | (with_reducible first | exact HB.out | apply below_alloc | apply pw_below_drewN | apply below_drew1 | refine below_set ?_ GE373.out | refine below_set ?_ GE384.out | refine below_set ?_ GE389.out | refine below_set ?_ GE395.out) | exact HB.out));(case s2=>exact Kd.R_tight rfl HO388.out);rintro e w50 ⟨rfl,hy0,hb,hkp⟩;refine ⟨_,rfl,?_⟩;refine as10_ (blk_kept (z4_ BK373.out) hkp (fun hs_=>(fun e_=>(Kd.R_ne HO388.out BK373.out (by decide)) e_) hs_)) (Kd.R_mono (ok':=fun k_=>some k_≠(.slice Ao28 t380.length co28:Value).ownBlock∧some k_≠(.slice Ao35 t386.length co35:Value).ownBlock∧some k_≠(.slice Ao42 t391.length co42:Value).ownBlock∧some k_≠(.slice Ao47 t398.length co47:Value).ownBlock) (Kd.R_keptB (HO378.out) hkp (fun k_ hk_ hs_=>(hk_.1.1.2) hs_)) (fun k_ hk_=>⟨hk_.1.1.1.1.2,hk_.1.1.1.2,hk_.1.1.2,hk_.1.2⟩)) (Kd.R_mono (ok':=fun k_=>some k_≠(.slice Ao23 t376.length co23:Value).ownBlock∧some k_≠(.slice Ao35 t386.length co35:Value).ownBlock∧some k_≠(.slice Ao42 t391.length co42:Value).ownBlock∧some k_≠(.slice Ao47 t398.length co47:Value).ownBlock) (Kd.R_keptB (HO382.out) hkp (fun k_ hk_ hs_=>(hk_.1.1.2) hs_)) (fun k_ hk_=>⟨hk_.1.1.1.1.2,hk_.1.1.1.2,hk_.1.1.2,hk_.1.2⟩)) (blk_kept (z4_ BK384.out) hkp (fun hs_=>(fun e_=>(Kd.R_ne HO388.out BK384.out (by decide)) e_) hs_)) (Kd.R_reok rfl hy0 (fun k_ e_=>HO388.out.1 k_ e_)) (blk_kept (z4_ BK389.out) hkp (fun hs_=>(fun e_=>(Kd.R_ne HO388.out BK389.out (by decide)) e_) hs_)) (Kd.R_mono (ok':=fun k_=>some k_≠(.slice Ao23 t376.length co23:Value).ownBlock∧some k_≠(.slice Ao28 t380.length co28:Value).ownBlock∧some k_≠(.slice Ao35 t386.length co35:Value).ownBlock∧some k_≠(.slice Ao47 t398.length co47:Value).ownBlock) (Kd.R_keptB (HO393.out) hkp (fun k_ hk_ hs_=>(hk_.1.2) hs_)) (fun k_ hk_=>⟨hk_.1.1.1.1.2,hk_.1.1.1.2,hk_.1.1.2,hk_.1.2⟩)) (blk_kept (z4_ BK395.out) hkp (fun hs_=>(fun e_=>(Kd.R_ne HO388.out BK395.out (by decide)) e_) hs_)) (Kd.R_mono (ok':=fun k_=>some k_≠(.slice Ao23 t376.length co23:Value).ownBlock∧some k_≠(.slice Ao28 t380.length co28:Value).ownBlock∧some k_≠(.slice Ao35 t386.length co35:Value).ownBlock∧some k_≠(.slice Ao42 t391.length co42:Value).ownBlock) (Kd.R_keptB (HO400.out) hkp (fun k_ hk_ hs_=>(hk_.1.2) hs_)) (fun k_ hk_=>⟨hk_.1.1.1.1.2,hk_.1.1.1.2,hk_.1.1.2,hk_.1.2⟩)) (hb) ?_;clear BK373 HO378 HO382 BK384 HO388 BK389 HO393 BK395 HO400 HB;intro BK373 HO378 HO382 BK384 HO388 BK389 HO393 BK395 HO400 HB;(try clear hb);(try clear hkp);(try clear hy0)))
    (try simp only [Act.put,sa_,s0_,ss_])
    go_cut [42] (fun v42 wc=>∃ (kq:Nat) (x42_16:Bool),v42 = .bool x42_16∧Aside0 (laws_FnExactRingMore.j0 kq x42_16 a0_0 l0_1 t379 t380 t383 t390 t391 t394=some r)∧Aside0 (kq≤k)∧Aside0 (Kd.R k57 57 wc w.heap.size (fun k_=>some k_≠((.slice Ao35 t386.length co35):Value).ownBlock∧some k_≠((.slice Ao42 t391.length co42):Value).ownBlock) (.slice Ao28 t380.length co28) t380)∧Aside0 (Kd.R k57 57 wc w.heap.size (fun k_=>some k_≠((.slice Ao28 t380.length co28):Value).ownBlock∧some k_≠((.slice Ao42 t391.length co42):Value).ownBlock) (.slice Ao35 t386.length co35) t403)∧Aside0 (Kd.R k57 57 wc w.heap.size (fun k_=>some k_≠((.slice Ao28 t380.length co28):Value).ownBlock∧some k_≠((.slice Ao35 t386.length co35):Value).ownBlock) (.slice Ao42 t391.length co42) t391)∧Aside0 (wc.heap[gb373]? = some (.cells #[.int .i64 a0_0,(.slice A0_1 l0_1.length c0_1)] 24 (0,0)))∧Aside0 (wc.heap[gb384]? = some (.cells #[.int .i64 t379,(.slice Ao28 t380.length co28),.int .i64 t383] 34 (0,0)))∧Aside0 (wc.heap[gb389]? = some (.cells #[.int .i64 t385,(.slice Ao35 t386.length co35)] 29 (0,0)))∧Aside0 (wc.heap[gb395]? = some (.cells #[.int .i64 t390,(.slice Ao42 t391.length co42),.int .i64 t394] 34 (0,0)))∧Aside0 (Below w.heap.size w wc))
    case first =>
     have H:=HC17.out
     clear HC17
     by_cases c51:t402<0
     ·rw [if_pos c51] at H
      have c51b0:decide (t402<0)=true:=decide_eq_true c51
      clear c51
      (first | rw [c51b0] | (simp only [i64_w,i32_w];rw [c51b0]) | skip)
      have H':=Aside0.mk H
      clear H
      go_wp2
      go_meet
      case rel=>exact ⟨_,(true),(z2_),H',⟨by first | omega | exact Nat.le_refl _⟩,⟨z37_ HO382.out⟩,⟨by (with_reducible repeat (first | apply Kd.R_alloc | apply Kd.R_drewN | apply Kd.R_drew));exact Kd.R_mono HO388.out (fun _ hk=>⟨hk.1.1.2,hk.1.2⟩)⟩,⟨z37_ HO393.out⟩,⟨z4_ BK373.out⟩,⟨z4_ BK384.out⟩,⟨z4_ BK389.out⟩,⟨z4_ BK395.out⟩,⟨z16_ HB.out GE373.out GE384.out GE389.out GE395.out⟩⟩
     ·rw [if_neg c51] at H
      have c51b0:decide (t402<0)=false:=decide_eq_false c51
      clear c51
      (first | rw [c51b0] | (simp only [i64_w,i32_w];rw [c51b0]) | skip)
      replace H:=Option.bind_eq_some_iff.mp H
      obtain ⟨t404,A520,H⟩:=H
      replace H:(laws_FnExactRingMore.j0 k (!t404) a0_0 l0_1 t379 t380 t383 t390 t391 t394)=some r:=H
      have A52:=Aside0.mk A520
      clear A520
      have H':=Aside0.mk H
      clear H
      have hnb53:=NB395_373.out
      have hnc53:=NB373_395.out
      have hnb54:=NB395_384.out
      have hnc54:=NB384_395.out
      have hnb55:=NB395_389.out
      have hnc55:=NB389_395.out
      have ⟨hcz56_0,hcz56_1,hcz56_2,hfz56_0,hfz56_1,hfz56_2⟩:=cz3_ BK395.out
      have hnb57:=NB384_373.out
      have hnc57:=NB373_384.out
      have hnb58:=NB384_389.out
      have hnc58:=NB389_384.out
      have ⟨hcz59_0,hcz59_1,hcz59_2,hfz59_0,hfz59_1,hfz59_2⟩:=cz3_ BK384.out
      go_wp2_with (first | (go_at_call 17;(with_reducible refine (laws_eqRingOut.calls k t390 _ _ t391 t394 t379 _ _ t380 t383 t404 _ ?s1 ?s2 ?s3 ?s4 A52.out).mono ?_);(case s1=>repeat (first | exact (Kd.R_reads' HO393.out).2.2 | (with_reducible refine Kd.C_alloc ?_ _) | (with_reducible refine Kd.C_drewN ?_ _) | (with_reducible refine Kd.C_drew ?_)));(case s2=>exact (Kd.R_reads' HO393.out).2.1);(case s3=>repeat (first | exact (Kd.R_reads' HO382.out).2.2 | (with_reducible refine Kd.C_alloc ?_ _) | (with_reducible refine Kd.C_drewN ?_ _) | (with_reducible refine Kd.C_drew ?_)));(case s4=>exact (Kd.R_reads' HO382.out).2.1);rintro e w60 ⟨rfl,hb⟩;refine as10_ (Kd.R_below (z1_ HO378.out) hb) (Kd.R_below (z1_ HO382.out) hb) (Kd.R_below (z1_ HO388.out) hb) (Kd.R_below (z1_ HO393.out) hb) (Kd.R_below (z1_ HO400.out) hb) (blkB_ BK373.out hb) (blkB_ BK384.out hb) (blkB_ BK389.out hb) (blkB_ BK395.out hb) (below_step (z16_ HB.out GE373.out GE384.out GE389.out GE395.out) hb) ?_;clear HO378 HO382 HO388 HO393 HO400 BK373 BK384 BK389 BK395 HB;intro HO378 HO382 HO388 HO393 HO400 BK373 BK384 BK389 BK395 HB;(try clear hb)))
      go_meet
      case rel=>exact ⟨_,(!t404),(z2_),H',⟨by first | omega | exact Nat.le_refl _⟩,⟨z37_ HO382.out⟩,⟨by (with_reducible repeat (first | apply Kd.R_alloc | apply Kd.R_drewN | apply Kd.R_drew));exact Kd.R_mono HO388.out (fun _ hk=>⟨hk.1.1.2,hk.1.2⟩)⟩,⟨z37_ HO393.out⟩,⟨z4_ BK373.out⟩,⟨z4_ BK384.out⟩,⟨z4_ BK389.out⟩,⟨z4_ BK395.out⟩,⟨z16_ HB.out GE373.out GE384.out GE389.out GE395.out⟩⟩
    case rest =>
     clear HC17
     try clear c1
     try clear c2
     try clear p2
     try clear c3
     try clear c3b0
     try clear c4
     try clear c5
     try clear c10
     try clear c12
     try clear c14
     try clear c15
     try clear c17
     try clear c20
     try clear c21
     try clear c22
     try clear c26
     try clear c32
     try clear c33
     try clear c38
     try clear c39
     try clear c40
     try clear c51
     try clear c51b0
     try clear c53
     try clear c54
     try clear c55
     try clear c57
     try clear c58
     try clear hcz19_0
     try clear hcz19_1
     try clear hcz21_0
     try clear hcz21_1
     try clear hcz27_0
     try clear hcz27_1
     try clear hcz27_2
     try clear hcz29_0
     try clear hcz29_1
     try clear hcz34_0
     try clear hcz34_1
     try clear hcz41_0
     try clear hcz41_1
     try clear hcz41_2
     try clear hcz43_0
     try clear hcz43_1
     try clear hcz43_2
     try clear hcz49_0
     try clear hcz49_1
     try clear hcz56_0
     try clear hcz56_1
     try clear hcz56_2
     try clear hcz59_0
     try clear hcz59_1
     try clear hcz59_2
     try clear hcz5_0
     try clear hcz5_1
     try clear hfz19_0
     try clear hfz19_1
     try clear hfz21_0
     try clear hfz21_1
     try clear hfz27_0
     try clear hfz27_1
     try clear hfz27_2
     try clear hfz29_0
     try clear hfz29_1
     try clear hfz34_0
     try clear hfz34_1
     try clear hfz41_0
     try clear hfz41_1
     try clear hfz41_2
     try clear hfz43_0
     try clear hfz43_1
     try clear hfz43_2
     try clear hfz49_0
     try clear hfz49_1
     try clear hfz56_0
     try clear hfz56_1
     try clear hfz56_2
     try clear hfz59_0
     try clear hfz59_1
     try clear hfz59_2
     try clear hfz5_0
     try clear hfz5_1
     obtain ⟨kq,x42_16,rfl,HA,HJ16,HO_385001,HO_390001,HO_396001,BK373,BK384,BK389,BK395,HB⟩:=hcut
     have hl390001_16:=(Kd.R_reads' HO_390001.out).1
     rw [hl390001_16] at HO_390001
     (try simp only [hl390001_16])
     (try simp only [hl390001_16] at BK373)
     (try simp only [hl390001_16] at BK384)
     (try simp only [hl390001_16] at BK389)
     (try simp only [hl390001_16] at BK395)
     (try simp only [hl390001_16] at HO_385001)
     (try simp only [hl390001_16] at HO_396001)
     cases kq with
     | zero=>exact absurd HA.out (by simp [laws_FnExactRingMore.j0])
     | succ kj16 =>
      have H:=HA.out
      clear HA
      simp only [laws_FnExactRingMore.j0] at H
      by_cases c61:x42_16=true
      ·subst c61
       have H1:(none)=some r:=by rw [if_pos rfl] at H;exact H
       clear H
       have H:=H1
       clear H1
       exact absurd H (by simp)
      ·replace c61:=Bool.eq_false_iff.mpr c61
       subst c61
       have H1:((laws_markRingOut.f kj16 t390 t391 t394 1).bind fun bt405=>((laws_heldRingOut.f kj16 t390 bt405.2 t394 1).bind fun t407=>(if t407<0 then (none) else (if t407=bt405.1 then ((laws_toRing.f kj16 a0_0 l0_1).bind fun bt408=>((impl_RingMore.f kj16 bt408.1 bt408.2).bind fun bt412=>((laws_eqRingOut.f kj16 bt412.1 bt412.2.1 bt412.2.2 t379 t380 t383).bind fun t418=>(if t418=true then ((laws_heldRingOut.f kj16 t390 bt405.2 t394 1).bind fun t419=>(if t419<0 then (none) else (if t419=bt405.1 then (some true) else (none)))) else (none))))) else (none)))))=some r:=by rw [if_neg (show ¬ (false=true) by decide)] at H;exact H
       clear H
       have H:=H1
       clear H1
       replace H:=Option.bind_eq_some_iff.mp H
       obtain ⟨⟨t405,t406⟩,A620,H⟩:=H
       replace H:((laws_heldRingOut.f kj16 t390 t406 t394 1).bind fun t407=>(if t407<0 then (none) else (if t407=t405 then ((laws_toRing.f kj16 a0_0 l0_1).bind fun bt408=>((impl_RingMore.f kj16 bt408.1 bt408.2).bind fun bt412=>((laws_eqRingOut.f kj16 bt412.1 bt412.2.1 bt412.2.2 t379 t380 t383).bind fun t418=>(if t418=true then ((laws_heldRingOut.f kj16 t390 t406 t394 1).bind fun t419=>(if t419<0 then (none) else (if t419=t405 then (some true) else (none)))) else (none))))) else (none))))=some r:=H
       have A62:=Aside0.mk A620
       clear A620
       replace H:=Option.bind_eq_some_iff.mp H
       obtain ⟨t407,A630,H⟩:=H
       replace H:(if t407<0 then (none) else (if t407=t405 then ((laws_toRing.f kj16 a0_0 l0_1).bind fun bt408=>((impl_RingMore.f kj16 bt408.1 bt408.2).bind fun bt412=>((laws_eqRingOut.f kj16 bt412.1 bt412.2.1 bt412.2.2 t379 t380 t383).bind fun t418=>(if t418=true then ((laws_heldRingOut.f kj16 t390 t406 t394 1).bind fun t419=>(if t419<0 then (none) else (if t419=t405 then (some true) else (none)))) else (none))))) else (none)))=some r:=H
       have A63:=Aside0.mk A630
       clear A630
       by_cases c64:t407<0
       ·rw [if_pos c64] at H
        exact absurd H (by simp)
       ·rw [if_neg c64] at H
        have c64b0:decide (t407<0)=false:=decide_eq_false c64
        clear c64
        by_cases c65:t407=t405
        ·rw [if_pos c65] at H
         have c65b0:(t407 == t405)=true:=beq_iff_eq.mpr c65
         have c65b1:(t407 != t405)=false:=bne_eq_false_iff_eq.mpr c65
         clear c65
         replace H:=Option.bind_eq_some_iff.mp H
         obtain ⟨⟨t408,t409⟩,A660,H⟩:=H
         replace H:((impl_RingMore.f kj16 t408 t409).bind fun bt412=>((laws_eqRingOut.f kj16 bt412.1 bt412.2.1 bt412.2.2 t379 t380 t383).bind fun t418=>(if t418=true then ((laws_heldRingOut.f kj16 t390 t406 t394 1).bind fun t419=>(if t419<0 then (none) else (if t419=t405 then (some true) else (none)))) else (none))))=some r:=H
         have A66:=Aside0.mk A660
         clear A660
         replace H:=Option.bind_eq_some_iff.mp H
         obtain ⟨⟨t412,t413,t416⟩,A670,H⟩:=H
         replace H:((laws_eqRingOut.f kj16 t412 t413 t416 t379 t380 t383).bind fun t418=>(if t418=true then ((laws_heldRingOut.f kj16 t390 t406 t394 1).bind fun t419=>(if t419<0 then (none) else (if t419=t405 then (some true) else (none)))) else (none)))=some r:=H
         have A67:=Aside0.mk A670
         clear A670
         replace H:=Option.bind_eq_some_iff.mp H
         obtain ⟨t418,A680,H⟩:=H
         replace H:(if t418=true then ((laws_heldRingOut.f kj16 t390 t406 t394 1).bind fun t419=>(if t419<0 then (none) else (if t419=t405 then (some true) else (none)))) else (none))=some r:=H
         have A68:=Aside0.mk A680
         clear A680
         by_cases c69:t418=true
         ·subst c69
          have H1:((laws_heldRingOut.f kj16 t390 t406 t394 1).bind fun t419=>(if t419<0 then (none) else (if t419=t405 then (some true) else (none))))=some r:=by rw [if_pos rfl] at H;exact H
          clear H
          have H:=H1
          clear H1
          replace H:=Option.bind_eq_some_iff.mp H
          obtain ⟨t419,A700,H⟩:=H
          replace H:(if t419<0 then (none) else (if t419=t405 then (some true) else (none)))=some r:=H
          have A70:=Aside0.mk A700
          clear A700
          by_cases c71:t419<0
          ·rw [if_pos c71] at H
           exact absurd H (by simp)
          ·rw [if_neg c71] at H
           have c71b0:decide (t419<0)=false:=decide_eq_false c71
           clear c71
           by_cases c72:t419=t405
           ·rw [if_pos c72] at H
            have c72b0:(t419 == t405)=true:=beq_iff_eq.mpr c72
            have c72b1:(t419 != t405)=false:=bne_eq_false_iff_eq.mpr c72
            clear c72
            obtain rfl:=Option.some.inj H
            have hnb73:=NB395_373.out
            have hnc73:=NB373_395.out
            have hnb74:=NB395_384.out
            have hnc74:=NB384_395.out
            have hnb75:=NB395_389.out
            have hnc75:=NB389_395.out
            have ⟨hcz76_0,hcz76_1,hcz76_2,hfz76_0,hfz76_1,hfz76_2⟩:=cz3_ BK395.out
            go_wp2_with (first | ((with_reducible refine gc_ 18 ?_);refine gl_ (some 45) Tryd.func18 #[.agg #[.int .i64 t390,.slice Ao42 t391.length co42,.int .i64 t394],.int .i64 1] ?_;(with_reducible refine (laws_markRingOut.calls kj16 t390 (fun k_=>some k_=(.slice Ao42 t391.length co42:Value).ownBlock) (.slice Ao42 t391.length co42) t391 t394 1 t405 t406 w _ ?s1 ?s2 A62.out).mono ?_);(case s1=>repeat (first | (with_reducible first | exact HB.out | apply below_alloc | apply pw_below_drewN | apply below_drew1 | refine below_set ?_ GE373.out | refine below_set ?_ GE384.out | refine below_set ?_ GE389.out | refine below_set ?_ GE395.out) | exact HB.out));(case s2=>exact Kd.R_tight rfl HO_396001.out);rintro e w77 ⟨rfl,hy0,hb,hkp⟩;refine ⟨_,rfl,?_⟩;refine as8_ (Kd.R_mono (ok':=fun k_=>some k_≠(.slice Ao35 t403.length co35:Value).ownBlock∧some k_≠(.slice Ao42 t391.length co42:Value).ownBlock) (Kd.R_keptB (HO_385001.out) hkp (fun k_ hk_ hs_=>(hk_.2) hs_)) (fun k_ hk_=>⟨hk_.1.1,hk_.1.2⟩)) (Kd.R_mono (ok':=fun k_=>some k_≠(.slice Ao28 t380.length co28:Value).ownBlock∧some k_≠(.slice Ao42 t391.length co42:Value).ownBlock) (Kd.R_keptB (HO_390001.out) hkp (fun k_ hk_ hs_=>(hk_.2) hs_)) (fun k_ hk_=>⟨hk_.1.1,hk_.1.2⟩)) (Kd.R_reok rfl hy0 (fun k_ e_=>HO_396001.out.1 k_ e_)) (blk_kept (z4_ BK373.out) hkp (fun hs_=>(fun e_=>(Kd.R_ne HO_396001.out BK373.out (by decide)) e_) hs_)) (blk_kept (z4_ BK384.out) hkp (fun hs_=>(fun e_=>(Kd.R_ne HO_396001.out BK384.out (by decide)) e_) hs_)) (blk_kept (z4_ BK389.out) hkp (fun hs_=>(fun e_=>(Kd.R_ne HO_396001.out BK389.out (by decide)) e_) hs_)) (blk_kept (z4_ BK395.out) hkp (fun hs_=>(fun e_=>(Kd.R_ne HO_396001.out BK395.out (by decide)) e_) hs_)) (hb) ?_;clear HO_385001 HO_390001 HO_396001 BK373 BK384 BK389 BK395 HB;intro HO_385001 HO_390001 HO_396001 BK373 BK384 BK389 BK395 HB;(try clear hb);(try clear hkp);(try clear hy0);have ⟨hcz78_0,hcz78_1,hcz78_2,hfz78_0,hfz78_1,hfz78_2⟩:=cz3_ BK395.out) | ((with_reducible refine gc_ 19 ?_);refine goesL_ (some 48) rfl rfl Tryd.func19 (by kernel_rfl) rfl #[.agg #[.int .i64 t390,.slice Ao42 t406.length co42,.int .i64 t394],.int .i64 1] rfl (by (try simp only [List.map_toArray,List.map_cons,List.map_nil]);first | done | (rw [show t406.length=t391.length from (Kd.R_reads' HO_396001.out).1.symm] <;> rfl) | rfl | (simp only [List.length_drop,List.length_take];rfl)) ?_;(with_reducible refine (laws_heldRingOut.calls kj16 t390 _ _ t406 t394 1 t407 _ ?s1 ?s2 A63.out).mono ?_);(case s1=>repeat (first | exact (Kd.R_reads' HO_396001.out).2.2 | (with_reducible refine Kd.C_alloc ?_ _) | (with_reducible refine Kd.C_drewN ?_ _) | (with_reducible refine Kd.C_drew ?_)));(case s2=>rw [show t406.length=t391.length from (Kd.R_reads' HO_396001.out).1.symm];exact (Kd.R_reads' HO_396001.out).2.1);rintro e w79 ⟨rfl,hb⟩;refine ⟨_,rfl,?_⟩;refine as8_ (Kd.R_below (z1_ HO_385001.out) hb) (Kd.R_below (z1_ HO_390001.out) hb) (Kd.R_below (z1_ HO_396001.out) hb) (blkB_ BK373.out hb) (blkB_ BK384.out hb) (blkB_ BK389.out hb) (blkB_ BK395.out hb) (below_step (z16_ HB.out GE373.out GE384.out GE389.out GE395.out) hb) ?_;clear HO_385001 HO_390001 HO_396001 BK373 BK384 BK389 BK395 HB;intro HO_385001 HO_390001 HO_396001 BK373 BK384 BK389 BK395 HB;(try clear hb);have hnb80:=NB373_384.out;have hnc80:=NB384_373.out;have hnb81:=NB373_389.out;have hnc81:=NB389_373.out;have ⟨hcz82_0,hcz82_1,hfz82_0,hfz82_1⟩:=cz2_ BK373.out) | ((with_reducible refine gc_ 12 ?_);refine gl_ (some 55) Tryd.func12 #[.agg #[.int .i64 a0_0,.slice A0_1 l0_1.length c0_1]] ?_;(with_reducible refine (laws_toRing.calls kj16 a0_0 _ _ l0_1 t408 t409 _ ?s1 ?s2 A66.out).mono ?_);(case s1=>repeat (first | exact (Kd.C_below HR0_1.out HB.out) | (with_reducible refine Kd.C_alloc ?_ _) | (with_reducible refine Kd.C_drewN ?_ _) | (with_reducible refine Kd.C_drew ?_)));(case s2=>exact HC0_1.out);rintro e w83 ⟨v410,rfl,ho0,hb⟩;refine ⟨_,rfl,?_⟩;refine as9_ (Kd.R_elder' (z1_ HO_385001.out) (Kd.R_base ho0) hb) (Kd.R_elder' (z1_ HO_390001.out) (Kd.R_base ho0) hb) (Kd.R_elder' (z1_ HO_396001.out) (Kd.R_base ho0) hb) (Kd.R_lower (Kd.R_new' (Kd.R_new' (Kd.R_new' ho0 (Kd.R_lt (z1_ HO_385001.out))) (Kd.R_lt (z1_ HO_390001.out))) (Kd.R_lt (z1_ HO_396001.out))) (below_size (z16_ HB.out GE373.out GE384.out GE389.out GE395.out))) (blkB_ BK373.out hb) (blkB_ BK384.out hb) (blkB_ BK389.out hb) (blkB_ BK395.out hb) (below_step (z16_ HB.out GE373.out GE384.out GE389.out GE395.out) hb) ?_;clear HO_385001 HO_390001 HO_396001 BK373 BK384 BK389 BK395 HB;intro HO_385001 HO_390001 HO_396001 HO411 BK373 BK384 BK389 BK395 HB;(try clear hb);(try clear ho0);obtain ⟨Ao84,co84,eo84⟩:=Kd.R_slice HO411.out;subst eo84) | ((with_reducible refine gc_ 21 ?_);refine gl_ (some 56) Tryd.func21 #[.agg #[.int .i64 t408,.slice Ao84 t409.length co84]] ?_;(with_reducible refine (impl_RingMore.calls kj16 t408 _ _ t409 t412 t413 t416 _ ?s1 ?s2 A67.out).mono ?_);(case s1=>repeat (first | exact (Kd.R_reads' HO411.out).2.2 | (with_reducible refine Kd.C_alloc ?_ _) | (with_reducible refine Kd.C_drewN ?_ _) | (with_reducible refine Kd.C_drew ?_)));(case s2=>exact (Kd.R_reads' HO411.out).2.1);rintro e w85 ⟨v414,rfl,ho0,hb⟩;refine ⟨_,rfl,?_⟩;refine as10_ (Kd.R_elder' (z1_ HO_385001.out) (Kd.R_base ho0) hb) (Kd.R_elder' (z1_ HO_390001.out) (Kd.R_base ho0) hb) (Kd.R_elder' (z1_ HO_396001.out) (Kd.R_base ho0) hb) (Kd.R_elder' (z1_ HO411.out) (Kd.R_base ho0) hb) (Kd.R_lower (Kd.R_new' (Kd.R_new' (Kd.R_new' (Kd.R_new' ho0 (Kd.R_lt (z1_ HO_385001.out))) (Kd.R_lt (z1_ HO_390001.out))) (Kd.R_lt (z1_ HO_396001.out))) (Kd.R_lt (z1_ HO411.out))) (below_size (z16_ HB.out GE373.out GE384.out GE389.out GE395.out))) (blkB_ BK373.out hb) (blkB_ BK384.out hb) (blkB_ BK389.out hb) (blkB_ BK395.out hb) (below_step (z16_ HB.out GE373.out GE384.out GE389.out GE395.out) hb) ?_;clear HO_385001 HO_390001 HO_396001 HO411 BK373 BK384 BK389 BK395 HB;intro HO_385001 HO_390001 HO_396001 HO411 HO415 BK373 BK384 BK389 BK395 HB;(try clear hb);(try clear ho0)) | ((with_reducible refine gd_ 10 ?_);refine be_ 10 #[.int .i64 0,.slice none 0 0,.int .i64 0] 34 ?_;intro gb417 hg w86 hbox hb;refine as21_ (Kd.R_below (z1_ HO_385001.out) hb) (Kd.R_below (z1_ HO_390001.out) hb) (Kd.R_below (z1_ HO_396001.out) hb) (Kd.R_below (z1_ HO411.out) hb) (Kd.R_below (z1_ HO415.out) hb) (blkB_ BK373.out hb) (blkB_ BK384.out hb) (blkB_ BK389.out hb) (blkB_ BK395.out hb) (below_step (z16_ HB.out GE373.out GE384.out GE389.out GE395.out) hb) (hbox) ((by rw [hg];exact (below_size (by repeat (first | (with_reducible first | exact HB.out | apply below_alloc | apply pw_below_drewN | apply below_drew1 | refine below_set ?_ GE373.out | refine below_set ?_ GE384.out | refine below_set ?_ GE389.out | refine below_set ?_ GE395.out) | exact HB.out))):w.heap.size≤gb417)) ((by rw [hg];exact (below_size (by repeat (first | (with_reducible first | exact HB.out | apply below_alloc | apply pw_below_drewN | apply below_drew1 | refine below_set ?_ GE373.out | refine below_set ?_ GE384.out | refine below_set ?_ GE389.out | refine below_set ?_ GE395.out) | exact HB.out))):w.heap.size≤gb417)) (neL_ BK373.out hg) (neG_ BK373.out hg) (neL_ BK384.out hg) (neG_ BK384.out hg) (neL_ BK389.out hg) (neG_ BK389.out hg) (neL_ BK395.out hg) (neG_ BK395.out hg) ?_;clear HO_385001 HO_390001 HO_396001 HO411 HO415 BK373 BK384 BK389 BK395 HB;intro HO_385001 HO_390001 HO_396001 HO411 HO415 BK373 BK384 BK389 BK395 HB BK417 GW417 GE417 NB373_417 NB417_373 NB384_417 NB417_384 NB389_417 NB417_389 NB395_417 NB417_395;clear hb hbox hg;have hnb87:=NB417_373.out;have hnc87:=NB373_417.out;have hnb88:=NB417_384.out;have hnc88:=NB384_417.out;have hnb89:=NB417_389.out;have hnc89:=NB389_417.out;have hnb90:=NB417_395.out;have hnc90:=NB395_417.out;have ⟨hcz91_0,hcz91_1,hcz91_2,hfz91_0,hfz91_1,hfz91_2⟩:=cz3_ BK417.out;obtain ⟨Ao92,co92,eo92⟩:=Kd.R_slice HO415.out;subst eo92;have hnb93:=NB384_389.out;have hnc93:=NB389_384.out;have ⟨hcz94_0,hcz94_1,hcz94_2,hfz94_0,hfz94_1,hfz94_2⟩:=cz3_ BK384.out) | ((with_reducible refine gc_ 17 ?_);refine gl_ (some 59) Tryd.func17 #[.agg #[.int .i64 t412,.slice Ao92 t413.length co92,.int .i64 t416],.agg #[.int .i64 t379,.slice Ao28 t380.length co28,.int .i64 t383]] ?_;(with_reducible refine (laws_eqRingOut.calls kj16 t412 _ _ t413 t416 t379 _ _ t380 t383 true _ ?s1 ?s2 ?s3 ?s4 A68.out).mono ?_);(case s1=>refine (Kd.R_reads' (e:=57) (base:=w.heap.size) (ok:=fun k_=>((((True∧some k_≠(.slice Ao28 t380.length co28:Value).ownBlock)∧some k_≠(.slice Ao35 t403.length co35:Value).ownBlock)∧some k_≠(.slice Ao42 t391.length co42:Value).ownBlock)∧some k_≠(.slice Ao84 t409.length co84:Value).ownBlock)) (n:=t413.length) (c:=co92) ?_).2.2;exact (z14_ HO415.out BK417.out));(case s2=>exact (Kd.R_reads' HO415.out).2.1);(case s3=>refine (Kd.R_reads' (e:=57) (base:=w.heap.size) (ok:=fun k_=>(((some k_≠(.slice Ao35 t403.length co35:Value).ownBlock∧some k_≠(.slice Ao42 t391.length co42:Value).ownBlock)∧some k_≠(.slice Ao84 t409.length co84:Value).ownBlock)∧some k_≠(.slice Ao92 t413.length co92:Value).ownBlock)) (n:=t380.length) (c:=co28) ?_).2.2;exact (z14_ HO_385001.out BK417.out));(case s4=>exact (Kd.R_reads' HO_385001.out).2.1);rintro e w95 ⟨rfl,hb⟩;refine ⟨_,rfl,?_⟩;refine as11_ (Kd.R_below (z14_ HO_385001.out BK417.out) hb) (Kd.R_below (z14_ HO_390001.out BK417.out) hb) (Kd.R_below (z14_ HO_396001.out BK417.out) hb) (Kd.R_below (z14_ HO411.out BK417.out) hb) (Kd.R_below (z14_ HO415.out BK417.out) hb) (blk_below (g:=gb373) (o:=.cells #[.int .i64 a0_0,.slice A0_1 l0_1.length c0_1] 24 (0,0)) (z23_ NB373_417.out BK373.out) hb) (blk_below (g:=gb384) (o:=.cells #[.int .i64 t379,.slice Ao28 t380.length co28,.int .i64 t383] 34 (0,0)) (z23_ NB384_417.out BK384.out) hb) (blk_below (g:=gb389) (o:=.cells #[.int .i64 t385,.slice Ao35 t403.length co35] 29 (0,0)) (z23_ NB389_417.out BK389.out) hb) (blk_below (g:=gb395) (o:=.cells #[.int .i64 t390,.slice Ao42 t391.length co42,.int .i64 t394] 34 (0,0)) (z23_ NB395_417.out BK395.out) hb) (blk_below (g:=gb417) (o:=.cells #[.int .i64 t412,.slice Ao92 t413.length co92,.int .i64 t416] 34 (0,0)) (z19_ BK417.out) hb) (below_step (z40_ HB.out GE373.out GE384.out GE389.out GE395.out GE417.out) hb) ?_;clear HO_385001 HO_390001 HO_396001 HO411 HO415 BK373 BK384 BK389 BK395 BK417 HB;intro HO_385001 HO_390001 HO_396001 HO411 HO415 BK373 BK384 BK389 BK395 BK417 HB;(try clear hb);(try clear hb2);(try clear hk);(try clear hi);have ⟨hcz96_0,hcz96_1,hcz96_2,hfz96_0,hfz96_1,hfz96_2⟩:=cz3_ BK395.out) | ((with_reducible refine gc_ 19 ?_);refine goesL_ (some 63) rfl rfl Tryd.func19 (by kernel_rfl) rfl #[.agg #[.int .i64 t390,.slice Ao42 t406.length co42,.int .i64 t394],.int .i64 1] rfl (by (try simp only [List.map_toArray,List.map_cons,List.map_nil]);first | done | (rw [show t406.length=t391.length from (Kd.R_reads' HO_396001.out).1.symm] <;> rfl) | rfl | (simp only [List.length_drop,List.length_take];rfl)) ?_;(with_reducible refine (laws_heldRingOut.calls kj16 t390 _ _ t406 t394 1 t419 _ ?s1 ?s2 A70.out).mono ?_);(case s1=>repeat (first | exact (Kd.R_reads' HO_396001.out).2.2 | (with_reducible refine Kd.C_alloc ?_ _) | (with_reducible refine Kd.C_drewN ?_ _) | (with_reducible refine Kd.C_drew ?_)));(case s2=>rw [show t406.length=t391.length from (Kd.R_reads' HO_396001.out).1.symm];exact (Kd.R_reads' HO_396001.out).2.1);rintro e w97 ⟨rfl,hb⟩;refine ⟨_,rfl,?_⟩;refine as11_ (Kd.R_below (z1_ HO_385001.out) hb) (Kd.R_below (z1_ HO_390001.out) hb) (Kd.R_below (z1_ HO_396001.out) hb) (Kd.R_below (z1_ HO411.out) hb) (Kd.R_below (z1_ HO415.out) hb) (blkB_ BK373.out hb) (blkB_ BK384.out hb) (blkB_ BK389.out hb) (blkB_ BK395.out hb) (blkB_ BK417.out hb) (below_step (z40_ HB.out GE373.out GE384.out GE389.out GE395.out GE417.out) hb) ?_;clear HO_385001 HO_390001 HO_396001 HO411 HO415 BK373 BK384 BK389 BK395 BK417 HB;intro HO_385001 HO_390001 HO_396001 HO411 HO415 BK373 BK384 BK389 BK395 BK417 HB;(try clear hb)))
            go_ret
            exact ⟨z8_,z40_ HB.out GE373.out GE384.out GE389.out GE395.out GE417.out⟩
           ·rw [if_neg c72] at H
            exact absurd H (by simp)
         ·replace c69:=Bool.eq_false_iff.mpr c69
          subst c69
          have H1:(none)=some r:=by rw [if_neg (show ¬ (false=true) by decide)] at H;exact H
          clear H
          have H:=H1
          clear H1
          exact absurd H (by simp)
        ·rw [if_neg c65] at H
         exact absurd H (by simp)
   ·replace c15:=Bool.eq_false_iff.mpr c15
    subst c15
    have H1:(none)=some r:=by rw [if_neg (show ¬ (false=true) by decide)] at H;exact H
    clear H
    have H:=H1
    clear H1
    exact absurd H (by simp)
  ·replace c12:=Bool.eq_false_iff.mpr c12
   subst c12
   have H1:(none)=some r:=by rw [if_neg (show ¬ (false=true) by decide)] at H;exact H
   clear H
   have H:=H1
   clear H1
   exact absurd H (by simp)

end Go.Proofs.YtdogendcjmgnnaaDoor.P

namespace Go.Proofs.YtdogendcjmgnnaaDoor.P
open Go.RowKit Go.Proofs.YtdogendcjmgnnaaDoor.RO
def laws_FnExactRingMore.Pure:Prop:=∀ (x0:S24),wfT24 x0→∃ k,laws_FnExactRingMore.f k x0.f0 x0.f1=some true
end Go.Proofs.YtdogendcjmgnnaaDoor.P

namespace Go.Proofs.YtdogendcjmgnnaaDoor.Q
open Go.RowKit Go.Proofs.YtdogendcjmgnnaaDoorW.PrintWords Go.Proofs.YtdogendcjmgnnaaDoorW.PrintMore

theorem w64 {x:Int} (h0 : -9223372036854775808≤x) (h1:x≤9223372036854775807):wrap64 x=x:=by unfold wrap64;omega
theorem evIte {α:Type} {c:Prop} [Decidable c] {f g:Nat→Option α} {r:α} (h:c→Ev f r) (h':¬ c→Ev g r):Ev (fun k=>if c then f k else g k) r:=by
  by_cases hc:c
  · simp only [if_pos hc];exact h hc
  · simp only [if_neg hc];exact h' hc
theorem evPos {α:Type} {c:Prop} [Decidable c] {f g:Nat→Option α} {r:α} (hc:c) (h:Ev f r):Ev (fun k=>if c then f k else g k) r:=by
  simp only [if_pos hc];exact h
theorem evNeg {α:Type} {c:Prop} [Decidable c] {f g:Nat→Option α} {r:α} (hc:¬ c) (h:Ev g r):Ev (fun k=>if c then f k else g k) r:=by
  simp only [if_neg hc];exact h
theorem evBind1 {α β:Type} {g:Option α} {f:Nat→α→Option β} {a:α} {r:β} (h:g=some a) (k:Ev (fun n=>f n a) r):Ev (fun n=>g.bind (f n)) r:=by
  subst h;exact k
theorem dropCons {α:Type} {l:List α} {i:Nat} {a:α} {s:List α} (h:l.drop i=a :: s) (d:α):i<l.length∧l.getD i d=a∧l.drop (i+1)=s:=by
  have hl:i<l.length:=by
    have:=congrArg List.length h
    simp at this;omega
  rw [List.drop_eq_getElem_cons hl] at h
  injection h with h1 h2
  exact ⟨hl,by rw [List.getD_eq_getElem?_getD,List.getElem?_eq_getElem hl];exact h1,h2⟩
theorem dropNil {α:Type} {l:List α} {i:Nat} (h:l.drop i=[]):l.length≤i:=by
  have:=congrArg List.length h
  simp at this;omega
theorem dropNil' {α:Type} {l:List α} {i:Nat} (h:l.drop i=[]) (hi:i≤l.length):l.length=i:=by
  have:=dropNil h;omega
theorem getD_mid {α:Type} (pre:List α) (m:α) (s:List α) (d:α):(pre ++ m :: s).getD pre.length d=m:=by
  rw [List.getD_eq_getElem?_getD,List.getElem?_append_right (Nat.le_refl _),Nat.sub_self];rfl
theorem set_mid {α:Type} (pre:List α) (m x:α) (s:List α):(pre ++ m :: s).set pre.length x=pre ++ x :: s:=by
  rw [List.set_append_right _ _ (Nat.le_refl _),Nat.sub_self];rfl
end Go.Proofs.YtdogendcjmgnnaaDoor.Q

namespace Go.Proofs.YtdogendcjmgnnaaDoor.Q
open Go.RowKit Go.Proofs.YtdogendcjmgnnaaDoor.P Go.Proofs.YtdogendcjmgnnaaDoorW.PrintWords Go.Proofs.YtdogendcjmgnnaaDoorW.PrintMore

def isWithin (n low high:Int):Bool:=decide (low≤n) && decide (n≤high)
def isNode (n:Int):Bool:=isWithin n 1 5
theorem l02Is_is (n a b:Int):spec_l02Is.f n a b=some (isWithin n a b):=by
  unfold spec_l02Is.f isWithin
  split
  · rename_i h;simp [show a≤n from h]
  · rename_i h;simp [show ¬ a≤n from h]
theorem l02Node_is (n:Int):spec_l02Node.f n=some (isNode n):=by simp [spec_l02Node.f,l02Is_is,isNode]
theorem within_is (n a b:Int):impl_within.f n a b=some (isWithin n a b):=by
  unfold impl_within.f isWithin
  split
  · rename_i h;simp [show a≤n from h]
  · rename_i h;simp [show ¬ a≤n from h]
theorem isNode_is (n:Int):impl_isNode.f n=some (isNode n):=by simp [impl_isNode.f,within_is,isNode]
theorem isNode_iff (n:Int):isNode n=true ↔ 1≤n∧n≤5:=by simp [isNode,isWithin]
end Go.Proofs.YtdogendcjmgnnaaDoor.Q

namespace Go.Proofs.YtdogendcjmgnnaaDoor.Q
open Go.RowKit Go.Proofs.YtdogendcjmgnnaaDoor.P Go.Proofs.YtdogendcjmgnnaaDoorW.PrintWords Go.Proofs.YtdogendcjmgnnaaDoorW.PrintMore

abbrev Tok:=S57
abbrev LTok:=S75
def toTok (m:LTok):Tok:=⟨m.f0,m.f1⟩
theorem szTokenS_is (l:List LTok) (n:Int) (h0:0≤n) (h1:n≤1048576) (hl:l.length≤9223372036854775807) :
    laws_szTokenS.f l n=some (if n<(l.length:Int) then -1 else n-(l.length:Int)):=by
  unfold laws_szTokenS.f
  rw [w64 (by omega) (by omega)]
  split
  · rw [if_pos (by omega)]
  · rw [if_neg (by omega)]
theorem toTokenS_l0 (l:List LTok) (hl:l.length≤1048576):∀ (s:List LTok) (i:Nat),l.drop i=s→i≤l.length→∀ (acc:List Tok),acc.length=l.length→acc.take i=(l.take i).map toTok →
    Ev (fun k=>laws_toTokenS.l0 k l acc (i:Int)) (l.map toTok)
  | [],i,h,hi,acc,ha,hc=>by
    have:=dropNil' h hi
    refine Ev.step (f:=fun _=>some (l.map toTok)) (fun k=>?_) (Ev.now _)
    simp only [laws_toTokenS.l0]
    rw [if_neg (by omega)]
    rw [← this,List.take_of_length_le (by omega),List.take_length] at hc
    rw [hc]
  | m :: s,i,h,hi,acc,ha,hc=>by
    obtain ⟨h1,h2,h3⟩:=dropCons h z75
    have hr:rd_T75 l (i:Int)=m:=by simpa [rd_T75] using h2
    have hm:l[i]'h1=m:=by
      rw [List.getD_eq_getElem?_getD,List.getElem?_eq_getElem h1] at h2;exact h2
    refine Ev.step (fun k=>?_) (toTokenS_l0 l hl s (i+1) h3 (by omega) (acc.set i (toTok m)) (by simpa using ha) (by
      rw [List.take_succ_eq_append_getElem (by simp;omega),List.take_succ_eq_append_getElem h1,List.map_append,List.take_set_of_le (by omega),hc]
      simp [hm]))
    simp only [laws_toTokenS.l0,laws_toToken.f,hr,Option.bind_some,Int.toNat_natCast]
    rw [if_pos (by omega),if_pos (by omega),if_pos (by omega),w64 (by omega) (by omega)]
    rfl
theorem toTokenS_ev (l:List LTok) (hl:l.length≤1048576):Ev (fun k=>laws_toTokenS.f k l) (l.map toTok):=by
  unfold laws_toTokenS.f
  refine evPos (by omega) (evPos (by omega) ?_)
  exact toTokenS_l0 l hl l 0 rfl (by omega) _ (by simp) (by simp)
theorem eqToken_refl (a b:Int):laws_eqToken.f a b a b=some true:=by simp [laws_eqToken.f]
theorem eqTokenS_l0 (l:List Tok) (hl:l.length≤4611686018427387904):∀ (s:List Tok) (i:Nat),l.drop i=s→i≤l.length →
    Ev (fun k=>laws_eqTokenS.l0 k l l (i:Int)) true
  | [],i,h,hi=>by
    have:=dropNil' h hi
    refine Ev.step (f:=fun _=>some true) (fun k=>?_) (Ev.now _)
    simp only [laws_eqTokenS.l0]
    rw [if_neg (by omega)]
  | m :: s,i,h,hi=>by
    obtain ⟨h1,h2,h3⟩:=dropCons h z57
    refine Ev.step (fun k=>?_) (eqTokenS_l0 l hl s (i+1) h3 (by omega))
    simp only [laws_eqTokenS.l0,eqToken_refl,Option.bind_some]
    rw [if_pos (by omega),if_pos (by omega),if_pos (by omega),if_pos trivial,w64 (by omega) (by omega)]
    rfl
theorem eqTokenS_ev (l:List Tok) (hl:l.length≤4611686018427387904):Ev (fun k=>laws_eqTokenS.f k l l) true:=by
  unfold laws_eqTokenS.f
  exact evPos rfl (eqTokenS_l0 l hl l 0 rfl (by omega))
def tokL:Int→List Tok→List Tok
  | _,[]=>[]
  | n,_ :: r=>⟨n,n+1⟩ :: tokL (n+2) r
theorem markTokenS_l0 (N:Int) (hN:N≤1152921504606846976):∀ (s pre:List Tok) (n:Int),0≤n→n+2*(s.length:Int)≤N→(pre.length:Int)+s.length≤N →
    Ev (fun k=>laws_markTokenS.l0 k (pre ++ s) n (pre.length:Int)) (n+2*(s.length:Int),pre ++ tokL n s)
  | [],pre,n,h0,h1,h2=>by
    refine Ev.step (f:=fun _=>some (n,pre)) (fun k=>?_) (by simp [tokL];exact Ev.now _)
    simp only [laws_markTokenS.l0,List.append_nil]
    rw [if_neg (by omega)]
  | m :: s,pre,n,h0,h1,h2=>by
    simp only [List.length_cons] at h1 h2
    have ih:=markTokenS_l0 N hN s (pre ++ [⟨n,n+1⟩]) (n+2) (by omega) (by omega) (by simp;omega)
    simp only [List.length_append,List.length_cons,List.length_nil,List.append_assoc,List.cons_append,List.nil_append] at ih
    refine Ev.step (fun k=>?_) (show Ev _ (n+2*((m :: s).length:Int),pre ++ tokL n (m :: s)) from by
      simp only [tokL,List.length_cons]
      rw [show n+2*((s.length+1:Nat):Int)=n+2+2*(s.length:Int) from by omega]
      exact ih)
    simp only [laws_markTokenS.l0,Option.bind_some,Int.toNat_natCast,rd_T57,set_mid,getD_mid]
    rw [if_pos (by simp;omega),if_pos (by omega),w64 (x:=n+1) (by omega) (by omega),w64 (x:=n+1+1) (by omega) (by omega),w64 (x:=(pre.length:Int)+1) (by omega) (by omega),show n+1+1=n+2 from by omega]
    rfl
theorem markTokenS_ev (s:List Tok) (n:Int) (h0:0≤n) (h1:n+2*(s.length:Int)≤1152921504606846976):Ev (fun k=>laws_markTokenS.f k s n) (n+2*(s.length:Int),tokL n s) :=
  markTokenS_l0 1152921504606846976 (Int.le_refl _) s [] n h0 h1 (by simp;omega)
theorem heldTokenS_l0 (N:Int) (hN:N≤1152921504606846976):∀ (s pre:List Tok) (n:Int),0≤n→n+2*(s.length:Int)≤N→(pre.length:Int)+s.length≤N →
    Ev (fun k=>laws_heldTokenS.l0 k (pre ++ tokL n s) n (pre.length:Int)) (n+2*(s.length:Int))
  | [],pre,n,h0,h1,h2=>by
    refine Ev.step (f:=fun _=>some n) (fun k=>?_) (by simp;exact Ev.now _)
    simp only [laws_heldTokenS.l0,tokL,List.append_nil]
    rw [if_neg (by omega)]
  | m :: s,pre,n,h0,h1,h2=>by
    simp only [List.length_cons] at h1 h2
    have ih:=heldTokenS_l0 N hN s (pre ++ [⟨n,n+1⟩]) (n+2) (by omega) (by omega) (by simp;omega)
    simp only [List.length_append,List.length_cons,List.length_nil,List.append_assoc,List.cons_append,List.nil_append] at ih
    refine Ev.step (fun k=>?_) (show Ev _ (n+2*((m :: s).length:Int)) from by
      simp only [List.length_cons]
      rw [show n+2*((s.length+1:Nat):Int)=n+2+2*(s.length:Int) from by omega]
      exact ih)
    have hr:rd_T57 (pre ++ tokL n (m :: s)) (pre.length:Int)=⟨n,n+1⟩:=by simp only [rd_T57,Int.toNat_natCast,tokL,getD_mid]
    simp only [laws_heldTokenS.l0,hr]
    rw [if_pos (by simp [tokL];omega),if_pos (by omega),w64 (x:=n+1) (by omega) (by omega),if_pos trivial,if_pos rfl,w64 (x:=n+1+1) (by omega) (by omega),w64 (x:=(pre.length:Int)+1) (by omega) (by omega),show n+1+1=n+2 from by omega]
    rfl
theorem heldTokenS_ev (s:List Tok) (n:Int) (h0:0≤n) (h1:n+2*(s.length:Int)≤1152921504606846976):Ev (fun k=>laws_heldTokenS.f k (tokL n s) n) (n+2*(s.length:Int)) :=
  heldTokenS_l0 1152921504606846976 (Int.le_refl _) s [] n h0 h1 (by simp;omega)
theorem eqRing_ev (n:Int) (l:List Tok) (hl:l.length≤4611686018427387904):Ev (fun k=>laws_eqRing.f k n l n l) true :=
  evPos rfl (Ev.bind (eqTokenS_ev l hl) (evPos rfl (Ev.now _)))
theorem eqRingOut_ev (n:Int) (l:List Tok) (c:Int) (hl:l.length≤4611686018427387904):Ev (fun k=>laws_eqRingOut.f k n l c n l c) true :=
  Ev.bind (eqRing_ev n l hl) (evPos rfl (evPos rfl (Ev.now _)))
theorem markRing_ev (N:Int) (l:List Tok) (n:Int) (h0:0≤n) (h1:n+2*(l.length:Int)≤1152921504606846976):Ev (fun k=>laws_markRing.f k N l n) (n+2*(l.length:Int),tokL n l) :=
  Ev.bind (markTokenS_ev l n h0 h1) (Ev.now _)
theorem markRingOut_ev (N:Int) (l:List Tok) (c n:Int) (h0:0≤n) (h1:n+2*(l.length:Int)≤1152921504606846976):Ev (fun k=>laws_markRingOut.f k N l c n) (n+2*(l.length:Int),tokL n l) :=
  Ev.bind (markRing_ev N l n h0 h1) (Ev.now _)
theorem heldRing_ev (N:Int) (l:List Tok) (n:Int) (h0:0≤n) (h1:n+2*(l.length:Int)≤1152921504606846976):Ev (fun k=>laws_heldRing.f k N (tokL n l) n) (n+2*(l.length:Int)) :=
  Ev.bind (heldTokenS_ev l n h0 h1) (evNeg (by omega) (Ev.now _))
theorem heldRingOut_ev (N:Int) (l:List Tok) (c n:Int) (h0:0≤n) (h1:n+2*(l.length:Int)≤1152921504606846976):Ev (fun k=>laws_heldRingOut.f k N (tokL n l) c n) (n+2*(l.length:Int)) :=
  Ev.bind (heldRing_ev N l n h0 h1) (evNeg (by omega) (Ev.now _))
theorem toRing_ev (n:Int) (l:List LTok) (hl:l.length≤1048576):Ev (fun k=>laws_toRing.f k n l) (n,l.map toTok):=Ev.bind (toTokenS_ev l hl) (Ev.now _)
end Go.Proofs.YtdogendcjmgnnaaDoor.Q

namespace Go.Proofs.YtdogendcjmgnnaaDoor.P
open Go.RowKit Go.Proofs.YtdogendcjmgnnaaDoorW.PrintWords Go.Proofs.YtdogendcjmgnnaaDoorW.PrintLast Go.Proofs.YtdogendcjmgnnaaDoorW.PrintMore
attribute [local go_sem] max2_int min2_int max_two min_two max_three min_three max_four min_four   -- for this text's walks alone
set_option linter.unusedVariables false
set_option linter.unusedSimpArgs false

/-! ### impl_RingNew: function 16 -/
def impl_RingNew.j0:Nat→Int→Int→Bool→Option (Int × (List (S57)) × Int)
 | 0,_,_,_=>none
 | k+1,x0,x1,x12=>if x12=true then (some (0,([]:List (S57)),1)) else ((impl_ringNew.f k x0 x1).bind fun bt314=>(some (bt314.1,bt314.2,0)))
def impl_RingNew.f (k:Nat) (a0:Int) (a1:Int):Option (Int × (List (S57)) × Int):=(impl_isNode.f a0).bind fun t312=>(if t312=true then ((impl_within.f a1 1 8).bind fun t313=>(impl_RingNew.j0 k a0 a1 (!t313))) else (impl_RingNew.j0 k a0 a1 true))
theorem impl_RingNew.mono_l:∀ k,(∀ y0 y1 y2,LeO (impl_RingNew.j0 k y0 y1 y2) (impl_RingNew.j0 (k+1) y0 y1 y2))
 | 0=>fun _ _ _ r h=>by simp [impl_RingNew.j0] at h
 | k+1=>by
  have ih0:=impl_RingNew.mono_l k
  ·intro y0 y1 y2
   unfold impl_RingNew.j0
   repeat' first
   | (with_reducible exact ih0 _ _ _)
   | (with_reducible exact impl_ringNew.mono _ _ _)
   | (with_reducible exact LeO.refl _)
   | (with_reducible exact LeO.none _)
   | (with_reducible refine LeO.ite ?_ ?_)
   | (with_reducible refine LeO.bind ?_ (fun _=>?_))
   | exact ih0 _ _ _
   | exact impl_ringNew.mono _ _ _
   | exact LeO.none _
   | refine LeO.ite ?_ ?_
   | refine LeO.bind ?_ (fun _=>?_)
theorem impl_RingNew.mono:∀ a0 a1 k,LeO (impl_RingNew.f k a0 a1) (impl_RingNew.f (k+1) a0 a1):=by
 intro a0 a1 k
 have ih0:=impl_RingNew.mono_l k
 unfold impl_RingNew.f
 repeat' first
   | (with_reducible exact ih0 _ _ _)
   | (with_reducible exact impl_ringNew.mono _ _ _)
   | (with_reducible exact LeO.refl _)
   | (with_reducible exact LeO.none _)
   | (with_reducible refine LeO.ite ?_ ?_)
   | (with_reducible refine LeO.bind ?_ (fun _=>?_))
   | exact ih0 _ _ _
   | exact impl_ringNew.mono _ _ _
   | exact LeO.none _
   | refine LeO.ite ?_ ?_
   | refine LeO.bind ?_ (fun _=>?_)

/-! ### spec_RingNew: function 15 -/
def spec_RingNew.j0:Nat→Int→Int→Bool→Option (Int × (List (S57)) × Int)
 | 0,_,_,_=>none
 | k+1,x0,x1,x12=>if x12=true then (some (0,([]:List (S57)),1)) else ((spec_l04New.f k x0 x1).bind fun bt307=>(some (bt307.1,bt307.2,0)))
def spec_RingNew.f (k:Nat) (a0:Int) (a1:Int):Option (Int × (List (S57)) × Int):=(spec_l02Node.f a0).bind fun t305=>(if t305=true then ((spec_l02Is.f a1 1 8).bind fun t306=>(spec_RingNew.j0 k a0 a1 (!t306))) else (spec_RingNew.j0 k a0 a1 true))
theorem spec_RingNew.mono_l:∀ k,(∀ y0 y1 y2,LeO (spec_RingNew.j0 k y0 y1 y2) (spec_RingNew.j0 (k+1) y0 y1 y2))
 | 0=>fun _ _ _ r h=>by simp [spec_RingNew.j0] at h
 | k+1=>by
  have ih0:=spec_RingNew.mono_l k
  ·intro y0 y1 y2
   unfold spec_RingNew.j0
   repeat' first
   | (with_reducible exact ih0 _ _ _)
   | (with_reducible exact spec_l04New.mono _ _ _)
   | (with_reducible exact LeO.refl _)
   | (with_reducible exact LeO.none _)
   | (with_reducible refine LeO.ite ?_ ?_)
   | (with_reducible refine LeO.bind ?_ (fun _=>?_))
   | exact ih0 _ _ _
   | exact spec_l04New.mono _ _ _
   | exact LeO.none _
   | refine LeO.ite ?_ ?_
   | refine LeO.bind ?_ (fun _=>?_)
theorem spec_RingNew.mono:∀ a0 a1 k,LeO (spec_RingNew.f k a0 a1) (spec_RingNew.f (k+1) a0 a1):=by
 intro a0 a1 k
 have ih0:=spec_RingNew.mono_l k
 unfold spec_RingNew.f
 repeat' first
   | (with_reducible exact ih0 _ _ _)
   | (with_reducible exact spec_l04New.mono _ _ _)
   | (with_reducible exact LeO.refl _)
   | (with_reducible exact LeO.none _)
   | (with_reducible refine LeO.ite ?_ ?_)
   | (with_reducible refine LeO.bind ?_ (fun _=>?_))
   | exact ih0 _ _ _
   | exact spec_l04New.mono _ _ _
   | exact LeO.none _
   | refine LeO.ite ?_ ?_
   | refine LeO.bind ?_ (fun _=>?_)
end Go.Proofs.YtdogendcjmgnnaaDoor.P

namespace Go.Proofs.YtdogendcjmgnnaaDoor.Q
open Go.RowKit Go.Proofs.YtdogendcjmgnnaaDoor.P Go.Proofs.YtdogendcjmgnnaaDoorW.PrintWords Go.Proofs.YtdogendcjmgnnaaDoorW.PrintMore

theorem evMono {α:Type} {g:Nat→Option α} {r:α} (hm:∀ k,LeO (g k) (g (k+1))) (K:Nat) (h:g K=some r):Ev g r:=⟨K,fun k hk=>by
  obtain ⟨d,rfl⟩:=Nat.exists_eq_add_of_le hk
  induction d with
  | zero=>exact h
  | succ d ih=>exact hm _ _ (ih (by omega))⟩
def eqToks:List Tok→List Tok→Bool
  | [],[]=>true
  | x :: a,y :: b=>(x.f0 == y.f0 && x.f1 == y.f1) && eqToks a b
  | _,_=>false
theorem eqToks_eq:∀ a b:List Tok,eqToks a b=true→a=b
  | [],[],_=>rfl
  | x :: a,y :: b,h=>by
    simp only [eqToks,Bool.and_eq_true,beq_iff_eq] at h
    obtain ⟨⟨h1,h2⟩,h3⟩:=h
    obtain ⟨x0,x1⟩:=x
    obtain ⟨y0,y1⟩:=y
    simp only at h1 h2
    rw [h1,h2,eqToks_eq a b h3]
  | [],_ :: _,h=>by simp [eqToks] at h
  | _ :: _,[],h=>by simp [eqToks] at h
def ringRounds:Nat:=3000
def ringT (n e:Int):List Tok:=match spec_l04New.f ringRounds n e with
  | some x=>x.2
  | none=>[]
def ringTest (n e:Nat):Bool:=match impl_ringNew.f ringRounds (n:Int) (e:Int),spec_l04New.f ringRounds (n:Int) (e:Int) with
  | some x,some y=>x.1 == (n:Int) && (y.1 == (n:Int) && (eqToks x.2 y.2 && y.2.length == n*e))
  | _,_=>false
set_option maxRecDepth 1000000 in
theorem ring_all:(List.range 40).all (fun j=>ringTest (j / 8+1) (j % 8+1))=true:=by kernel_rfl
theorem ring_is {n e:Int} (hn:isNode n=true) (he:isWithin e 1 8=true) :
    Ev (fun k=>impl_ringNew.f k n e) (n,ringT n e)∧Ev (fun k=>spec_l04New.f k n e) (n,ringT n e)∧((ringT n e).length:Int)=n*e:=by
  rw [isNode_iff] at hn
  simp only [isWithin,Bool.and_eq_true,decide_eq_true_eq] at he
  obtain ⟨n,rfl⟩:=Int.eq_ofNat_of_zero_le (show 0≤n by omega)
  obtain ⟨e,rfl⟩:=Int.eq_ofNat_of_zero_le (show 0≤e by omega)
  have h:=List.all_eq_true.1 ring_all ((n-1)*8+(e-1)) (List.mem_range.2 (by omega))
  rw [show ((n-1)*8+(e-1)) / 8+1=n by omega,show ((n-1)*8+(e-1)) % 8+1=e by omega] at h
  unfold ringTest at h
  split at h
  · rename_i x y hx hy
    simp only [Bool.and_eq_true,beq_iff_eq] at h
    obtain ⟨h1,h2,h3,h4⟩:=h
    have h5:=eqToks_eq _ _ h3
    have ht:ringT (n:Int) (e:Int)=y.2:=by unfold ringT;rw [hy]
    obtain ⟨x1,x2⟩:=x
    obtain ⟨y1,y2⟩:=y
    simp only at h1 h2 h4 h5 ht
    clear h3
    subst h1
    subst h2
    subst h5
    rw [ht]
    refine ⟨evMono (fun k=>impl_ringNew.mono _ _ k) ringRounds hx,evMono (fun k=>spec_l04New.mono _ _ k) ringRounds hy,?_⟩
    rw [h4]
    simp
  · cases h
theorem ringT_length {n e:Int} (hn:isNode n=true) (he:isWithin e 1 8=true):(ringT n e).length≤40:=by
  have h:=(ring_is hn he).2.2
  rw [isNode_iff] at hn
  simp only [isWithin,Bool.and_eq_true,decide_eq_true_eq] at he
  have h1:n*e≤5*8:=by
    have a:=Int.mul_le_mul_of_nonneg_right (show n≤5 by omega) (show 0≤e by omega)
    have b:=Int.mul_le_mul_of_nonneg_left (show e≤8 by omega) (show (0:Int)≤5 by omega)
    omega
  omega
def ringOk (n:Int) (l:List Tok):Bool:=isNode n && (isWithin ((l.length:Int) / n) 1 8 && eqToks l (ringT n ((l.length:Int) / n)))
theorem tokNe (x y:Tok):(!(x.f0 == y.f0) || (!(x.f1 == y.f1)))=!(x.f0 == y.f0 && x.f1 == y.f1):=by
  cases x.f0 == y.f0 <;> cases x.f1 == y.f1 <;> rfl
theorem equal_l0 (l m:List Tok) (hl:l.length≤1048576) (hm:m.length=l.length):∀ (s t:List Tok) (i:Nat),l.drop i=s→m.drop i=t→i≤l.length →
    Ev (fun k=>slices_Equal_impl_Token_impl_Token.l0 k l m (l.length:Int) (i:Int)) (eqToks s t)
  | [],t,i,h,h',hi=>by
    have e:=dropNil' h hi
    have:t=[]:=by rw [← h',List.drop_eq_nil_of_le (by omega)]
    subst this
    refine Ev.step (f:=fun _=>some true) (fun k=>?_) (Ev.now _)
    simp only [slices_Equal_impl_Token_impl_Token.l0]
    rw [if_neg (by omega)]
  | x :: s,[],i,h,h',hi=>by
    have a:=(dropCons h z57).1
    have b:=dropNil h'
    omega
  | x :: s,y :: t,i,h,h',hi=>by
    obtain ⟨h1,h2,h3⟩:=dropCons h z57
    obtain ⟨g1,g2,g3⟩:=dropCons h' z57
    have hr:rd_T57 l (i:Int)=x:=by simpa [rd_T57] using h2
    have gr:rd_T57 m (i:Int)=y:=by simpa [rd_T57] using g2
    have ih:=equal_l0 l m hl hm s t (i+1) h3 g3 (by omega)
    refine Ev.step (fun k=>by simp only [slices_Equal_impl_Token_impl_Token.l0,hr,gr,tokNe];rw [if_pos (by omega),if_pos (by omega),if_pos (by omega),if_pos (by omega)]) ?_
    unfold eqToks
    cases x.f0 == y.f0 && x.f1 == y.f1 with
    | false=>exact evPos (by rfl) (Ev.now _)
    | true =>
      refine evNeg (by simp) ?_
      rw [w64 (by omega) (by omega)]
      exact ih
theorem eqToks_length:∀ a b:List Tok,a.length≠b.length→eqToks a b=false:=fun a b h=>by
  cases e:eqToks a b with
  | false=>rfl
  | true=>exact absurd (by rw [eqToks_eq a b e]) h
theorem Equal_ev (l m:List Tok) (hl:l.length≤1048576):Ev (fun k=>slices_Equal_impl_Token_impl_Token.f k l m) (eqToks l m):=by
  unfold slices_Equal_impl_Token_impl_Token.f
  refine evIte (fun h=>?_) (fun h=>?_)
  · exact equal_l0 l m hl (by omega) l m 0 rfl rfl (by omega)
  · rw [eqToks_length l m (by omega)]
    exact Ev.now _
theorem impl_RingRight_ev (n:Int) (l:List Tok) (hl:l.length≤1048576):Ev (fun k=>impl_RingRight.f k n l) (ringOk n l):=by
  unfold impl_RingRight.f ringOk
  refine evBind1 (isNode_is _) ?_
  cases hn:isNode n with
  | false=>exact evNeg (by simp) (Ev.now _)
  | true =>
    have hn':=(isNode_iff n).1 hn
    have hd:wrap64 ((l.length:Int) / n)=(l.length:Int) / n:=by
      have a:=Int.ediv_nonneg (show (0:Int)≤(l.length:Int) by omega) (show 0≤n by omega)
      have b:=Int.ediv_le_self n (show (0:Int)≤(l.length:Int) by omega)
      exact w64 (by omega) (by omega)
    rw [hd]
    refine evPos rfl (evNeg (by omega) (evBind1 (within_is _ _ _) ?_))
    cases he:isWithin ((l.length:Int) / n) 1 8 with
    | false=>exact evNeg (by simp) (Ev.now _)
    | true=>exact evPos rfl (Ev.bind (ring_is hn he).1 (Ev.bind (Equal_ev l _ hl) (Ev.now _)))
theorem specRight_l0 (n n':Int) (l m:List Tok) (hl:l.length≤1048576) (hm:m.length=l.length):∀ (s t:List Tok) (i:Nat),l.drop i=s→m.drop i=t→i≤l.length →
    Ev (fun k=>spec_RingRight.l0 k (i:Int) n l n' m) (eqToks s t)
  | [],t,i,h,h',hi=>by
    have e:=dropNil' h hi
    have:t=[]:=by rw [← h',List.drop_eq_nil_of_le (by omega)]
    subst this
    refine Ev.step (f:=fun _=>some true) (fun k=>?_) (Ev.now _)
    simp only [spec_RingRight.l0]
    rw [if_neg (by omega)]
  | x :: s,[],i,h,h',hi=>by
    have a:=(dropCons h z57).1
    have b:=dropNil h'
    omega
  | x :: s,y :: t,i,h,h',hi=>by
    obtain ⟨h1,h2,h3⟩:=dropCons h z57
    obtain ⟨g1,g2,g3⟩:=dropCons h' z57
    have hr:rd_T57 l (i:Int)=x:=by simpa [rd_T57] using h2
    have gr:rd_T57 m (i:Int)=y:=by simpa [rd_T57] using g2
    have ih:=specRight_l0 n n' l m hl hm s t (i+1) h3 g3 (by omega)
    refine Ev.step (fun k=>by simp only [spec_RingRight.l0,hr,gr,tokNe];rw [if_pos (by omega),if_pos (by omega),if_pos (by omega)]) ?_
    unfold eqToks
    cases x.f0 == y.f0 && x.f1 == y.f1 with
    | false=>exact evPos (by rfl) (Ev.now _)
    | true =>
      refine evNeg (by simp) ?_
      rw [w64 (by omega) (by omega)]
      exact ih
theorem spec_RingRight_ev (n:Int) (l:List Tok) (hl:l.length≤1048576):Ev (fun k=>spec_RingRight.f k n l) (ringOk n l):=by
  unfold spec_RingRight.f ringOk
  have jT:Ev (fun k=>spec_RingRight.j0 k true n l) false:=Ev.step (f:=fun _=>some false) (fun k=>by simp [spec_RingRight.j0]) (Ev.now _)
  refine evBind1 (l02Node_is _) ?_
  cases hn:isNode n with
  | false=>exact evNeg (by simp) jT
  | true =>
    have hn':=(isNode_iff n).1 hn
    have a:=Int.ediv_nonneg (show (0:Int)≤(l.length:Int) by omega) (show 0≤n by omega)
    have b:=Int.ediv_le_self n (show (0:Int)≤(l.length:Int) by omega)
    have hq:=Int.mul_ediv_add_emod (l.length:Int) n
    have hm0:=Int.emod_nonneg (l.length:Int) (show n≠0 by omega)
    have hm1:=Int.emod_lt_of_pos (l.length:Int) (show 0<n by omega)
    rw [w64 (x:=8*n) (by omega) (by omega)]
    -- where the lengths do not fit, the two are not the same
    have no:(isWithin ((l.length:Int) / n) 1 8 && eqToks l (ringT n ((l.length:Int) / n)))=true→1≤(l.length:Int)∧(l.length:Int)≤8*n∧(l.length:Int) % n=0:=by
      intro h
      simp only [Bool.and_eq_true] at h
      have hL:=(ring_is hn h.1).2.2
      rw [← eqToks_eq _ _ h.2] at hL
      have hw:=h.1
      simp only [isWithin,Bool.and_eq_true,decide_eq_true_eq] at hw
      have h8:n*((l.length:Int) / n)≤n*8:=Int.mul_le_mul_of_nonneg_left (by omega) (by omega)
      have h9:n*1≤n*((l.length:Int) / n):=Int.mul_le_mul_of_nonneg_left (by omega) (by omega)
      refine ⟨by omega,by omega,by omega⟩
    have fl:(¬ (1≤(l.length:Int)∧(l.length:Int)≤8*n∧(l.length:Int) % n=0))→(isWithin ((l.length:Int) / n) 1 8 && eqToks l (ringT n ((l.length:Int) / n)))=false:=fun h=>by
      cases e:(isWithin ((l.length:Int) / n) 1 8 && eqToks l (ringT n ((l.length:Int) / n))) with
      | false=>rfl
      | true=>exact absurd (no e) h
    refine evPos rfl ?_
    rw [Bool.true_and]
    by_cases c1:(l.length:Int)<1
    · rw [fl (by omega)];exact evPos c1 jT
    · refine evNeg c1 ?_
      by_cases c2:(l.length:Int)>8*n
      · rw [fl (by omega)];exact evPos c2 jT
      · refine evNeg c2 (evNeg (by omega) ?_)
        by_cases c3:(l.length:Int) % n=0
        · have e3:((l.length:Int) % n != 0)=false:=by simp [c3]
          rw [e3]
          have hlo:1≤(l.length:Int) / n:=by
            apply Int.not_lt.1
            intro hlt
            have:(l.length:Int) / n=0:=by omega
            rw [this] at hq
            omega
          have hhi:(l.length:Int) / n≤8:=by
            apply Int.not_lt.1
            intro hlt
            have:n*9≤n*((l.length:Int) / n):=Int.mul_le_mul_of_nonneg_left (by omega) (by omega)
            omega
          have he:isWithin ((l.length:Int) / n) 1 8=true:=by simp only [isWithin,Bool.and_eq_true,decide_eq_true_eq];omega
          have hL:=(ring_is hn he).2.2
          rw [he,Bool.true_and]
          refine Ev.step (fun k=>by simp only [spec_RingRight.j0];rw [if_neg (by simp),if_neg (by omega),w64 (x:=(l.length:Int) / n) (by omega) (by omega)]) (Ev.bind (ring_is hn he).2.1 ?_)
          exact specRight_l0 n n l (ringT n ((l.length:Int) / n)) hl (by omega) l _ 0 rfl rfl (by omega)
        · have e3:((l.length:Int) % n != 0)=true:=by simp [c3]
          rw [e3,fl (by omega)]
          exact jT
def ringMore (n:Int) (l:List Tok):Int × List Tok × Int:=if ringOk n l=true then (if n=5 then (0,[],9) else (n+1,ringT (n+1) ((l.length:Int) / n),0)) else (0,[],1)
theorem ringMore_step {n:Int} {l:List Tok} (h:ringOk n l=true) (h5:n≠5):isNode (n+1)=true∧isWithin ((l.length:Int) / n) 1 8=true∧1≤n:=by
  simp only [ringOk,Bool.and_eq_true] at h
  have hn:=(isNode_iff n).1 h.1
  exact ⟨(isNode_iff _).2 (by omega),h.2.1,by omega⟩
theorem ringMore_length (n:Int) (l:List Tok):(ringMore n l).2.1.length≤40:=by
  unfold ringMore
  split
  · rename_i h
    split
    · simp
    · rename_i h5
      have:=ringMore_step h h5
      exact ringT_length this.1 this.2.1
  · simp
theorem impl_RingMore_ev (n:Int) (l:List Tok) (hl:l.length≤1048576):Ev (fun k=>impl_RingMore.f k n l) (ringMore n l):=by
  unfold impl_RingMore.f ringMore
  refine Ev.bind (impl_RingRight_ev n l hl) (evIte (fun h=>?_) (fun h=>?_))
  · rw [if_pos h]
    refine evIte (fun h5=>?_) (fun h5=>?_)
    · rw [if_pos h5];exact Ev.now _
    · rw [if_neg h5]
      obtain ⟨a,b,c⟩:=ringMore_step h h5
      have hd:wrap64 ((l.length:Int) / n)=(l.length:Int) / n:=by
        simp only [isWithin,Bool.and_eq_true,decide_eq_true_eq] at b
        exact w64 (by omega) (by omega)
      have hn:=(isNode_iff _).1 a
      rw [hd,w64 (x:=n+1) (by omega) (by omega)]
      exact evNeg (by omega) (Ev.bind (ring_is a b).1 (Ev.now _))
  · rw [if_neg h];exact Ev.now _
theorem spec_RingMore_ev (n:Int) (l:List Tok) (hl:l.length≤1048576):Ev (fun k=>spec_RingMore.f k n l) (ringMore n l):=by
  unfold spec_RingMore.f ringMore
  refine Ev.bind (spec_RingRight_ev n l hl) (evIte (fun h=>?_) (fun h=>?_))
  · rw [if_pos h]
    have h0:1≤n∧n≤5:=by
      simp only [ringOk,Bool.and_eq_true] at h
      exact (isNode_iff n).1 h.1
    refine evIte (fun h5=>?_) (fun h5=>?_)
    · rw [if_pos (by omega)];exact Ev.now _
    · rw [if_neg (by omega)]
      obtain ⟨a,b,c⟩:=ringMore_step h (by omega)
      have hd:wrap64 ((l.length:Int) / n)=(l.length:Int) / n:=by
        simp only [isWithin,Bool.and_eq_true,decide_eq_true_eq] at b
        exact w64 (by omega) (by omega)
      rw [hd,w64 (x:=n+1) (by omega) (by omega)]
      exact evNeg (by omega) (Ev.bind (ring_is a b).2.1 (Ev.now _))
  · rw [if_neg h];exact Ev.now _
theorem szRing_is (a:Int) (l:List LTok) (n:Int) (h0:0≤n) (h1:n≤1048576) (hl:l.length≤9223372036854775807):laws_szRing.f a l n=some (if n<(l.length:Int) then -1 else n-(l.length:Int)):=by
  unfold laws_szRing.f
  rw [szTokenS_is l n h0 h1 hl,Option.bind_some]
  by_cases h:n<(l.length:Int)
  · rw [if_pos h];rfl
  · rw [if_neg h,if_neg (by omega)]
end Go.Proofs.YtdogendcjmgnnaaDoor.Q

namespace Go.Proofs.YtdogendcjmgnnaaDoor.Pure
open Go.RowKit Go.Proofs.YtdogendcjmgnnaaDoor.P Go.Proofs.YtdogendcjmgnnaaDoor.Q Go.Proofs.YtdogendcjmgnnaaDoorW.PrintWords Go.Proofs.YtdogendcjmgnnaaDoorW.PrintMore
theorem FnExactRingMore:laws_FnExactRingMore.Pure:=by
  intro x hx
  have hl:x.f1.length≤9223372036854775807:=hx.2.1
  refine Ev.rounds ?_
  unfold laws_FnExactRingMore.f
  refine evBind1 (szRing_is x.f0 x.f1 _ (by omega) (by omega) hl) (evIte (fun _=>Ev.now _) (fun h=>?_))
  have hl':x.f1.length≤1048576:=by
    split at h <;> omega
  have ta:=toRing_ev x.f0 x.f1 hl'
  have ga:(x.f1.map toTok).length≤1048576:=by simpa using hl'
  generalize x.f1.map toTok=l at ta ga
  generalize x.f0=n at *
  have s1:=spec_RingMore_ev n l ga
  have s2:=impl_RingMore_ev n l ga
  have hj:=ringMore_length n l
  generalize ringMore n l=r at s1 s2 hj
  obtain ⟨N,m,c⟩:=r
  simp only at hj s1 s2
  have eo:=eqRingOut_ev N m c (by omega)
  have ho:=heldRingOut_ev N m c 1 (by omega) (by omega)
  refine Ev.bind ta (Ev.bind s1 (Ev.bind ta (Ev.bind s2 (Ev.bind eo (evPos rfl ?_)))))
  refine Ev.bind ta (Ev.bind (eqRing_ev n l (by omega)) (evPos rfl (Ev.bind (markRing_ev n l 1 (by omega) (by omega)) (evNeg (by omega) (Ev.bind eo ?_)))))
  refine Ev.step (fun k=>by simp only [laws_FnExactRingMore.j0];rw [if_neg (by simp)]) ?_
  refine Ev.bind (markRingOut_ev N m c 1 (by omega) (by omega)) (Ev.bind ho (evNeg (by omega) (evPos rfl ?_)))
  exact Ev.bind ta (Ev.bind s2 (Ev.bind eo (evPos rfl (Ev.bind ho (evNeg (by omega) (evPos rfl (Ev.now _)))))))
end Go.Proofs.YtdogendcjmgnnaaDoor.Pure

namespace Go.Proofs.YtdogendcjmgnnaaDoor.fnExactRingMore
open Go.ChangeShapes Go.WideShapes Go.ChangeAt Go.RowKit Go.Proofs.YtdogendcjmgnnaaDoor.P Go.Proofs.YtdogendcjmgnnaaDoor.RO Go.Proofs.YtdogendcjmgnnaaDoor.Open Go.Proofs.YtdogendcjmgnnaaDoorW.PrintWords
open Go.ChangeMaps (open_string shut_string)
set_option linter.unusedVariables false
theorem own:ownKnob Tryd.prog.godebug=none:=by kernel_rfl
theorem laidOut:laidOutB Tryd.prog=true:=by kernel_rfl
set_option maxRecDepth 100000 in
theorem lifted (os:Os) (started:os.Started) (H:Type) (enc:TypeId × Value→H) :
    ReturnsInHanded {} Tryd.checked os 5 .any (fun w args=>(Rows.fnExactRingMoreSpec.pre enc Tryd.prog Tryd.f5 Rows.fnExactRingMoreRow.domain false w args∧laidMetH Tryd.prog Rows.fnExactRingMoreRow.laid w)∧sizedMet enc Tryd.prog Tryd.f5 (OpenSpec.ofChange Rows.fnExactRingMoreSpec) false w args) (Rows.fnExactRingMoreSpec.post enc Tryd.prog Tryd.f5 false true false false):=by
  refine returnsInHanded_of_change_and (C:=Tryd.checked) (X:=fun w _=>laidMetH Tryd.prog Rows.fnExactRingMoreRow.laid w) (fun _ _ _ hh h=>h.of_heap hh) own started (by kernel_rfl) Tryd.func5
    (ChangeSpec.witness_shaped (enc:=enc) (C:=Tryd.checked) (X:=fun w _=>laidMetH Tryd.prog Rows.fnExactRingMoreRow.laid w) false (World.laidAll Tryd.prog os Rows.fnExactRingMoreRow.laid) #[.agg #[.int .i64 0,.slice none 0 0]] 8 (World.laidAll_os _ _ _) (World.shaped_of_ZipB (by kernel_rfl) (by kernel_rfl)) (by kernel_rfl) (by kernel_rfl) (by kernel_rfl)
      (by rw [MakeChecks.laidMetH_plain _ _ _ (by kernel_rfl)];exact laidMet_laidAll _ (by kernel_rfl) (by kernel_rfl))) ?_
  intro W base args ds gs before hval0 hW hcnd hsz0 hL_ _
  have hsz:(DataW.weightsEach Tryd.prog (Tryd.f5.params.toList ++ Rows.fnExactRingMoreSpec.plain.varTypes Tryd.prog) (ds ++ gs)).all (· ≤ reachBytes)=true:=hsz0
  have hval:∀ (j:Nat) t v,Tryd.f5.params[j]? = some t→args[j]? = some v→Value.okWide Tryd.prog W .any base t v:=hval0
  have hW':=hW
  obtain ⟨p,q,hA0,hV,rfl,hfz,hnd⟩:=hW
  have hA:DataW.TrodAll enc Tryd.prog W 0 (fun _=>true) true Tryd.f5.params.toList args.toList ds p:=hA0
  rw [Tryd.params5] at hA hval hsz
  obtain ⟨v0,vs0,d0,ds0,p0,q0,hargs,rfl,rfl,h0,r0⟩:=trodAll_cons hA
  obtain ⟨rfl,rfl,rfl⟩:=trodAll_nil r0
  obtain rfl:args=#[v0]:=by cases args;simp_all
  obtain ⟨rfl,rfl⟩:=trodVars_none hV
  have k0:=h0
  have lt0:∀ x ∈ p0,x.block<W.heap.size:=by obtain ⟨m,hm⟩:=k0;exact DataW.trod_lt m _ _ _ hm
  obtain ⟨cs0,rfl,_⟩:=okWide_struct Tryd.underlying24 (hval 0 24 v0 rfl rfl)
  obtain ⟨fuel0,hf0⟩:=h0
  obtain ⟨x0,hk0,w0⟩:=op_T24 hf0
  obtain ⟨A0_1,c0_1,hcs0,hl0_1,hr0_1⟩:=k24_open hk0
  obtain rfl:cs0=#[.int .i64 x0.f0,.slice A0_1 x0.f1.length c0_1]:=Array.toList_inj.1 hcs0
  clear hA0 hval0 hsz0 hsz
  obtain ⟨k,hp⟩:=Pure.FnExactRingMore x0 w0
  refine (P.laws_FnExactRingMore.calls k x0.f0 _ _ x0.f1 true W hr0_1 hl0_1 hp).mono fun e W' ⟨he,bel0⟩=>?_
  have bel:Below W.heap.size W W':=bel0
  subst he
  exact ⟨_,rfl,_,_,_,[],_,[],hW',trodAll_mk1 (shut_bool Tryd.underlying4 _),(trodAll_cons_mk (Below.trod laidOut (by kernel_rfl) (of_decide_eq_true (by kernel_rfl)) k0 bel lt0) trodAll_mk0),rfl,bel.frame _,fun h=>by cases h⟩
theorem over:Rows.fnExactRingMoreRow.holds Tryd.pinned (OpenSpec.ofChange Rows.fnExactRingMoreSpec) :=
  OpenClaim.holds_of_wide 5 Tryd.f5 rfl rfl rfl rfl rfl rfl rfl ⟨rfl,rfl,rfl,rfl,rfl⟩ rfl rfl rfl rfl rfl (by kernel_rfl) Tryd.func5 (by kernel_rfl)
    (of_decide_eq_true (by kernel_rfl)) (by unfold Func.isWrapper;first | (rw [if_pos (by decide +kernel)];kernel_rfl) | (rw [if_neg (by decide +kernel)];exact ⟨rfl,rfl⟩))
    (fun os started H enc _=>lifted os started H enc)
theorem proved:Rows.FnExactRingMoreSaid:=over
theorem card:Rows.FnExactRingMoreCardSaid :=
  Claim7.holds_tied_plain_at .later [] [.data,.data,.data] true (true, "ec164a04fd4b5fbfa775392ccf34910d927062456d59d87074f881a1f57c5866") false proved (fun _ h=>by cases h) (by kernel_rfl) (fun _ h=>by cases h) fnExactRingMore_row_tie rfl ⟨rfl,rfl⟩ (by kernel_rfl) rfl
    (fun f fn hf hfn=>by
      obtain rfl:f=5:=Option.some.inj ((show Tryd.prog.funcNamed Rows.fnExactRingMoreRow.func=some 5 by kernel_rfl).symm.trans hf) |>.symm
      obtain rfl:fn=Tryd.f5:=(Option.some.inj (Tryd.func5.symm.trans hfn)).symm
      exact ⟨by kernel_rfl,fun j t ht=>by
        rw [Tryd.params5] at ht
        have h_:t ∈ [24]:=by have:=Array.mem_of_getElem? ht;simpa using this
        have hs_:∀ x ∈ [24],Tryd.prog.wantsStandIn x=false:=by
          intro x hx
          simp only [List.mem_cons,List.not_mem_nil,or_false] at hx
          rcases hx with rfl <;> kernel_rfl
        exact hs_ t h_⟩)
    (by kernel_rfl)
#print axioms card
#print axioms proved
end Go.Proofs.YtdogendcjmgnnaaDoor.fnExactRingMore
namespace Go.Proofs.YtdogendcjmgnnaaDoor
/-- The row, under a short name, for the claim. -/
theorem fnExactRingMore_holds:Rows.FnExactRingMoreCardSaid:=fnExactRingMore.card
end Go.Proofs.YtdogendcjmgnnaaDoor
