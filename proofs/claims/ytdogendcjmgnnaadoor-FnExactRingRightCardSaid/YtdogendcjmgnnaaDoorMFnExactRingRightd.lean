/- For all rings the program's RingRight and the reference's return the same answer, and the ring stays as it was. No condition. (Part 4 of 4: written by programs of this workplace and by hand, merged.) -/
import Derived.Test.YtdogendcjmgnnaaDoorMFnExactRingRighta
import Derived.Test.YtdogendcjmgnnaaDoorMFnExactRingRightc
import Derived.Test.YtdogendcjmgnnaaDoorMFnExactRingRightWWords
import Derived.Test.YtdogendcjmgnnaaDoorMFnExactRingRightWMore
import Derived.Laws.BitsLemmas
import Derived.Test.YtdogendcjmgnnaaDoorRows
import Derived.Test.YtdogendcjmgnnaaDoorTie
import Derived.Test.YtdogendcjmgnnaaDoorCards
import Derived.WalkKit
import Derived.ProofKit
import Derived.OpenShut
import Derived.ShutString
import Derived.ChangeOld
import Derived.Below
import Derived.SizedLaws
import Derived.LaidMore
import Derived.Lay
import Derived.LaidOnce
import Derived.SevenTiedAt
import Derived.LaidLaws
import Derived.ChangeSame
import Derived.ChangeVars
import Derived.JoinedOf
set_option linter.unusedVariables false
set_option linter.unusedSimpArgs false

namespace Go.Proofs.YtdogendcjmgnnaaDoor.P
open Go.RowKit Go.Proofs.YtdogendcjmgnnaaDoorW.PrintWords Go.Proofs.YtdogendcjmgnnaaDoorW.PrintLast Go.Proofs.YtdogendcjmgnnaaDoorW.PrintMore
attribute [local go_sem] max2_int min2_int max_two min_two max_three min_three max_four min_four   -- for this text's walks alone
set_option linter.unusedVariables false
set_option linter.unusedSimpArgs false

/-! ### impl_ringNew: function 42 -/
mutual
def impl_ringNew.l0:Nat→Int→Int→Int→Int→List (S57)→Option (Int × (List (S57)))
 | 0,_,_,_,_,_=>none
 | k+1,x0,x1,x6,x263000,x263001=>if x6≤x0 then (impl_ringNew.l1 k x0 x1 x6 1 x263000 x263001) else ((slices_SortFunc_impl_Token_impl_Token_impl_ringNew_1.f k x263001).bind fun t263=>(some (x263000,t263)))
def impl_ringNew.l1:Nat→Int→Int→Int→Int→Int→List (S57)→Option (Int × (List (S57)))
 | 0,_,_,_,_,_,_=>none
 | k+1,x0,x1,x6,x7,x263000,x263001=>if x7≤x1 then ((impl_decimal.f k x6).bind fun t264=>(if t264.size+1≤9223372036854775807 then ((impl_decimal.f k x7).bind fun t265=>(if (t264.size+1)+t265.size≤9223372036854775807 then ((impl_fnv.f k ((t264 ++ (⟨#[45]⟩:ByteArray)) ++ t265)).bind fun t266=>(if x263001.length<8796093022208 then (impl_ringNew.l1 k x0 x1 x6 (wrap64 (x7+1)) x263000 (x263001 ++ [(⟨t266,x6⟩:S57)])) else (none))) else (none))) else (none))) else (impl_ringNew.l0 k x0 x1 (wrap64 (x6+1)) x263000 x263001)
end
def impl_ringNew.f (k:Nat) (a0:Int) (a1:Int):Option (Int × (List (S57))):=impl_ringNew.l0 k a0 a1 1 a0 ([]:List (S57))
theorem impl_ringNew.mono_l:∀ k,(∀ y0 y1 y2 y3 y4,LeO (impl_ringNew.l0 k y0 y1 y2 y3 y4) (impl_ringNew.l0 (k+1) y0 y1 y2 y3 y4))∧(∀ y0 y1 y2 y3 y4 y5,LeO (impl_ringNew.l1 k y0 y1 y2 y3 y4 y5) (impl_ringNew.l1 (k+1) y0 y1 y2 y3 y4 y5))
 | 0=>⟨fun _ _ _ _ _ r h=>by simp [impl_ringNew.l0] at h,fun _ _ _ _ _ _ r h=>by simp [impl_ringNew.l1] at h⟩
 | k+1=>by
  obtain ⟨ih0,ih1⟩:=impl_ringNew.mono_l k
  refine ⟨?_,?_⟩
  ·intro y0 y1 y2 y3 y4
   unfold impl_ringNew.l0
   repeat' first
   | (with_reducible exact ih0 _ _ _ _ _)
   | (with_reducible exact ih1 _ _ _ _ _ _)
   | (with_reducible exact impl_decimal.mono _ _)
   | (with_reducible exact impl_fnv.mono _ _)
   | (with_reducible exact slices_SortFunc_impl_Token_impl_Token_impl_ringNew_1.mono _ _)
   | (with_reducible exact LeO.refl _)
   | (with_reducible exact LeO.none _)
   | (with_reducible refine LeO.ite ?_ ?_)
   | (with_reducible refine LeO.bind ?_ (fun _=>?_))
   | exact ih0 _ _ _ _ _
   | exact ih1 _ _ _ _ _ _
   | exact impl_decimal.mono _ _
   | exact impl_fnv.mono _ _
   | exact slices_SortFunc_impl_Token_impl_Token_impl_ringNew_1.mono _ _
   | exact LeO.none _
   | refine LeO.ite ?_ ?_
   | refine LeO.bind ?_ (fun _=>?_)
  ·intro y0 y1 y2 y3 y4 y5
   unfold impl_ringNew.l1
   repeat' first
   | (with_reducible exact ih0 _ _ _ _ _)
   | (with_reducible exact ih1 _ _ _ _ _ _)
   | (with_reducible exact impl_decimal.mono _ _)
   | (with_reducible exact impl_fnv.mono _ _)
   | (with_reducible exact slices_SortFunc_impl_Token_impl_Token_impl_ringNew_1.mono _ _)
   | (with_reducible exact LeO.refl _)
   | (with_reducible exact LeO.none _)
   | (with_reducible refine LeO.ite ?_ ?_)
   | (with_reducible refine LeO.bind ?_ (fun _=>?_))
   | exact ih0 _ _ _ _ _
   | exact ih1 _ _ _ _ _ _
   | exact impl_decimal.mono _ _
   | exact impl_fnv.mono _ _
   | exact slices_SortFunc_impl_Token_impl_Token_impl_ringNew_1.mono _ _
   | exact LeO.none _
   | refine LeO.ite ?_ ?_
   | refine LeO.bind ?_ (fun _=>?_)
theorem impl_ringNew.mono:∀ a0 a1 k,LeO (impl_ringNew.f k a0 a1) (impl_ringNew.f (k+1) a0 a1):=by
 intro a0 a1 k
 obtain ⟨ih0,ih1⟩:=impl_ringNew.mono_l k
 unfold impl_ringNew.f
 repeat' first
   | (with_reducible exact ih0 _ _ _ _ _)
   | (with_reducible exact ih1 _ _ _ _ _ _)
   | (with_reducible exact impl_decimal.mono _ _)
   | (with_reducible exact impl_fnv.mono _ _)
   | (with_reducible exact slices_SortFunc_impl_Token_impl_Token_impl_ringNew_1.mono _ _)
   | (with_reducible exact LeO.refl _)
   | (with_reducible exact LeO.none _)
   | (with_reducible refine LeO.ite ?_ ?_)
   | (with_reducible refine LeO.bind ?_ (fun _=>?_))
   | exact ih0 _ _ _ _ _
   | exact ih1 _ _ _ _ _ _
   | exact impl_decimal.mono _ _
   | exact impl_fnv.mono _ _
   | exact slices_SortFunc_impl_Token_impl_Token_impl_ringNew_1.mono _ _
   | exact LeO.none _
   | refine LeO.ite ?_ ?_
   | refine LeO.bind ?_ (fun _=>?_)
def impl_ringNew.T8:Bool × List (List Nat × List Nat):=(true,[([],[]),([0],[0]),([],[]),([2],[2]),([3],[3]),([],[]),([5,3],[5]),([4,6],[4,6]),([7,6],[7]),([],[]),([8,9],[8,9]),([10],[10]),([1,11,8],[1,11]),([0,1,2,3,4,5,6,7,8,9,10,11,12],[]),([13,12,12,0,1,2,3,4,5,6,7,8,9,10,11,12],[12,13])])
def impl_ringNew.B8:List Nat:=[0,1,0,4,12,0,44,124,252,0,1020,2044,4095,8191,16383]
theorem impl_ringNew.tab8:rtab .any (opsOf Tryd.f42 8)=impl_ringNew.T8:=by kernel_rfl
theorem impl_ringNew.bits8:waitsOk impl_ringNew.T8.2 impl_ringNew.B8=true:=by kernel_rfl
set_option maxHeartbeats 8000000 in
set_option maxRecDepth 100000 in
theorem impl_ringNew.calls (k:Nat) (a0:Int) (a1:Int) (r1:Int) (r2:List (S57)) (w:World) (h:impl_ringNew.f k a0 a1=some (r1,r2)) :
  Calls Tryd.prog 42 #[.int .i64 a0,.int .i64 a1] w fun e w'=>∃ v1_:Value,e = .returned (.agg #[.int .i64 r1,v1_])∧Kd.R k57 57 w' w.heap.size (fun _=>True) v1_ r2∧Below w.heap.size w w':=by
 have hu29:=Tryd.underlying29
 have hu57:=Tryd.underlying57
 have HB:=Aside0.mk (Below.refl w.heap.size w)
 have H:(impl_ringNew.l0 k a0 a1 1 a0 ([]:List (S57)))=some (r1,r2):=h
 clear h
 have H':=Aside0.mk H
 clear H
 go_enter Tryd.func42,Tryd.ntmps42
 go_wp2_with (first | ((with_reducible refine gd_ 4 ?_);refine be_ 4 #[.int .i64 0,.slice none 0 0] 29 ?_;intro gb261 hg w3 hbox hb;refine as4_ (below_step (z3_ HB.out) hb) (hbox) ((z8_ HB.out:w.heap.size≤gb261)) ((z8_ HB.out:w.heap.size≤gb261)) ?_;clear HB;intro HB BK261 GW261 GE261;clear hb hbox hg) | ((with_reducible refine gd_ 5 ?_);refine be_ 5 #[.int .i64 0,.slice none 0 0] 29 ?_;intro gb262 hg w4 hbox hb;refine as7_ (blkB_ BK261.out hb) (below_step (z11_ HB.out GE261.out) hb) (hbox) ((z12_ HB.out GE261.out:w.heap.size≤gb262)) ((z12_ HB.out GE261.out:w.heap.size≤gb262)) (neL_ BK261.out hg) (neG_ BK261.out hg) ?_;clear BK261 HB;intro BK261 HB BK262 GW262 GE262 NB261_262 NB262_261;clear hb hbox hg;have hnb5:=NB262_261.out;have hnc5:=NB261_262.out;have ⟨hcz6_0,hcz6_1,hfz6_0,hfz6_1⟩:=cz2_ BK262.out))
 go_loopg [6] k (fun kq v6 w'=>∃ (x6_1:Int) (x263001_1:List (S57)) (u263001:Value),v6 = .int .i64 x6_1∧Aside0 (impl_ringNew.l0 kq a0 a1 x6_1 a0 x263001_1=some (r1,r2))∧Aside0 (kq≤k)∧Aside0 (Kd.R k57 57 w' w.heap.size (fun _=>True) u263001 x263001_1)∧Aside0 (w'.heap[gb261]? = some (.cells #[.int .i64 0,(.slice none 0 0)] 29 (0,0)))∧Aside0 (w'.heap[gb262]? = some (.cells #[.int .i64 a0,u263001] 29 (0,0)))∧Aside0 (Below w.heap.size w w'))
 case atStart=>exact ⟨(1),(([]:List (S57))),(.slice none 0 0),(z1_),H',⟨Nat.le_refl _⟩,⟨by first | exact Kd.R_nil _ _ _ _ _ | exact Kd.N_nil _ _ _ _ _ | exact Kd.V_nil _ _ _ _ _ | exact Kd.Q_nil _ _ _ _ _ | exact Kd.S_nil _ _ _ _ _⟩,⟨z21_ NB261_262.out BK261.out⟩,⟨z20_ BK262.out⟩,⟨z7_ HB.out GE261.out GE262.out⟩⟩
 case round =>
  clear H'
  try clear p2
  try clear c4
  try clear c5
  try clear hcz6_0
  try clear hcz6_1
  try clear hfz6_0
  try clear hfz6_1
  obtain ⟨x6_1,x263001_1,u263001,rfl,HA,HK1,HO_263001,BK261,BK262,HB⟩:=hrel
  cases gk with
  | zero=>exact absurd HA.out (by simp [impl_ringNew.l0])
  | succ k1 =>
   have H:=HA.out
   clear HA
   simp only [impl_ringNew.l0] at H
   by_cases c7:x6_1≤a0
   ·rw [if_pos c7] at H
    have c7b0:decide (x6_1≤a0)=true:=decide_eq_true c7
    clear c7
    have H':=Aside0.mk H
    clear H
    go_wp2
    go_loopg [7] k1 (fun kq v7 w'=>∃ (x7_2:Int) (x263001_2:List (S57)) (u263001:Value),v7 = .int .i64 x7_2∧Aside0 (impl_ringNew.l1 kq a0 a1 x6_1 x7_2 a0 x263001_2=some (r1,r2))∧Aside0 (kq≤k1)∧Aside0 (Kd.R k57 57 w' w.heap.size (fun _=>True) u263001 x263001_2)∧Aside0 (w'.heap[gb261]? = some (.cells #[.int .i64 0,(.slice none 0 0)] 29 (0,0)))∧Aside0 (w'.heap[gb262]? = some (.cells #[.int .i64 a0,u263001] 29 (0,0)))∧Aside0 (Below w.heap.size w w'))
    case atStart=>exact ⟨(1),(x263001_1),(u263001),(z1_),H',⟨Nat.le_refl _⟩,⟨z2_ HO_263001.out⟩,⟨z4_ BK261.out⟩,⟨z4_ BK262.out⟩,⟨z7_ HB.out GE261.out GE262.out⟩⟩
    case round =>
     clear H'
     try clear p2
     try clear c4
     try clear c5
     try clear c7
     try clear c7b0
     try clear hcz6_0
     try clear hcz6_1
     try clear hfz6_0
     try clear hfz6_1
     try clear p2
     obtain ⟨x7_2,x263001_2,u263001,rfl,HA,HK2,HO_263001,BK261,BK262,HB⟩:=hrel
     cases gk with
     | zero=>exact absurd HA.out (by simp [impl_ringNew.l1])
     | succ k2 =>
      have H:=HA.out
      clear HA
      simp only [impl_ringNew.l1] at H
      by_cases c8:x7_2≤a1
      ·rw [if_pos c8] at H
       have c8b0:decide (x7_2≤a1)=true:=decide_eq_true c8
       clear c8
       replace H:=Option.bind_eq_some_iff.mp H
       obtain ⟨t264,A90,H⟩:=H
       replace H:(if t264.size+1≤9223372036854775807 then ((impl_decimal.f k2 x7_2).bind fun t265=>(if (t264.size+1)+t265.size≤9223372036854775807 then ((impl_fnv.f k2 ((t264 ++ (⟨#[45]⟩:ByteArray)) ++ t265)).bind fun t266=>(if x263001_2.length<8796093022208 then (impl_ringNew.l1 k2 a0 a1 x6_1 (wrap64 (x7_2+1)) a0 (x263001_2 ++ [(⟨t266,x6_1⟩:S57)])) else (none))) else (none))) else (none))=some (r1,r2):=H
       have A9:=Aside0.mk A90
       clear A90
       by_cases c10:t264.size+1≤9223372036854775807
       ·rw [if_pos c10] at H
        have c10b0:=eq_true c10
        have c10b1:decide (t264.size+1≤9223372036854775807)=true:=decide_eq_true c10
        try have c10b2:(9223372036854775807<t264.size+1)=False:=eq_false (Nat.not_lt.2 c10)
        replace H:=Option.bind_eq_some_iff.mp H
        obtain ⟨t265,A110,H⟩:=H
        replace H:(if (t264.size+1)+t265.size≤9223372036854775807 then ((impl_fnv.f k2 ((t264 ++ (⟨#[45]⟩:ByteArray)) ++ t265)).bind fun t266=>(if x263001_2.length<8796093022208 then (impl_ringNew.l1 k2 a0 a1 x6_1 (wrap64 (x7_2+1)) a0 (x263001_2 ++ [(⟨t266,x6_1⟩:S57)])) else (none))) else (none))=some (r1,r2):=H
        have A11:=Aside0.mk A110
        clear A110
        by_cases c12:(t264.size+1)+t265.size≤9223372036854775807
        ·rw [if_pos c12] at H
         have c12b0:=eq_true c12
         have c12b1:decide ((t264.size+1)+t265.size≤9223372036854775807)=true:=decide_eq_true c12
         try have c12b2:(9223372036854775807<(t264.size+1)+t265.size)=False:=eq_false (Nat.not_lt.2 c12)
         replace H:=Option.bind_eq_some_iff.mp H
         obtain ⟨t266,A130,H⟩:=H
         replace H:(if x263001_2.length<8796093022208 then (impl_ringNew.l1 k2 a0 a1 x6_1 (wrap64 (x7_2+1)) a0 (x263001_2 ++ [(⟨t266,x6_1⟩:S57)])) else (none))=some (r1,r2):=H
         have A13:=Aside0.mk A130
         clear A130
         by_cases c14:x263001_2.length<8796093022208
         ·rw [if_pos c14] at H
          have LMc14:=Aside0.mk c14
          clear c14
          obtain ⟨y267,hy267⟩:∃ y_:List (S57),y_=(x263001_2 ++ [(⟨t266,x6_1⟩:S57)]):=⟨_,rfl⟩
          replace H:(impl_ringNew.l1 k2 a0 a1 x6_1 (wrap64 (x7_2+1)) a0 y267)=some (r1,r2):=by first | (rw [hy267];with_reducible exact H) | (have H2_:=(Option.bind_some _ _).symm.trans H;rw [hy267];with_reducible exact H2_) | (have H2_:=(Option.bind_some _ _).symm.trans H;with_reducible exact H2_) | with_reducible exact H | (rw [hy267];exact H) | exact H
          have Ny267:=Aside0.mk hy267
          clear hy267
          have H':=Aside0.mk H
          clear H
          try go_wp2
          refine as4_ (Kd.R_drew HO_263001.out) (blk_drew BK261.out) (blk_drew BK262.out) (below_drew1 HB.out) ?_
          clear HO_263001 BK261 BK262 HB
          intro HO_263001 BK261 BK262 HB
          refine start_ (n:=15) (S:=fun w'=>w'.cell? ⟨gb262,0,none⟩=some (.int .i64 a0)∧w'.cell? ⟨gb262,1,none⟩=some (u263001)) (ds:=[14]) #[O,O,O,O,O,O,O,O,O,O,O,O,O,O,O] (by kernel_rfl) rfl rfl (cc2_ BK262.out) (fun hHeld=>?_);refine with_tabW impl_ringNew.tab8 impl_ringNew.bits8 (fun HT_ HW_=>?_)
          generalize wr.drew=w15 at HO_263001 BK261 BK262 HB hHeld ⊢
          refine pu_ 0 20 #[I,O,O,O,O,O,O,O,O,O,O,O,O,O,O] HT_.out ?_
          refine pu_ 2 22 #[I,O,I,O,O,O,O,O,O,O,O,O,O,O,O] HT_.out ?_
          refine pu_ 5 25 #[I,O,I,O,O,I,O,O,O,O,O,O,O,O,O] HT_.out ?_
          refine pu_ 9 29 #[I,O,I,O,O,I,O,O,O,I,O,O,O,O,O] HT_.out ?_
          refine tk2_ 1 21 #[I,I,I,O,O,I,O,O,O,I,O,O,O,O,O] HT_.out HW_.out hHeld ?_
          refine o1_ 3 23 #[I,I,I,I,O,I,O,O,O,I,O,O,O,O,O] HT_.out (fun K hK=>?_)
          refine gs_ Tryd.func65 #[.int .i64 x6_1] ?_
          with_reducible refine (impl_decimal.calls k2 x6_1 t264 _ A9.out).mono ?_
          rintro e w' ⟨rfl,⟨nd,rfl⟩⟩
          refine ⟨_,rfl,?_⟩
          refine hK.out _ _ (cc2_ BK262.out) (fun hHeld=>?_)
          clear hK K
          refine nm_ 23 ?_
          refine pu_ 4 24 #[I,I,I,I,I,I,O,O,O,I,O,O,O,O,O] HT_.out ?_
          refine o1_ 6 26 #[I,I,I,I,I,I,I,O,O,I,O,O,O,O,O] HT_.out (fun K hK=>?_)
          refine gs_ Tryd.func65 #[.int .i64 x7_2] ?_
          with_reducible refine (impl_decimal.calls k2 x7_2 t265 _ A11.out).mono ?_
          rintro e w' ⟨rfl,⟨nd,rfl⟩⟩
          refine ⟨_,rfl,?_⟩
          refine hK.out _ _ (cc2_ BK262.out) (fun hHeld=>?_)
          clear hK K
          refine nm_ 26 ?_
          refine pu_ 7 27 #[I,I,I,I,I,I,I,I,O,I,O,O,O,O,O] HT_.out ?_
          refine o1_ 8 28 #[I,I,I,I,I,I,I,I,I,I,O,O,O,O,O] HT_.out (fun K hK=>?_)
          refine gs_ Tryd.func64 #[.string ((t264 ++ (⟨#[45]⟩:ByteArray)) ++ t265)] ?_
          with_reducible refine (impl_fnv.calls k2 ((t264 ++ (⟨#[45]⟩:ByteArray)) ++ t265) t266 _ A13.out).mono ?_
          rintro e w' ⟨rfl,⟨nd,rfl⟩⟩
          refine ⟨_,rfl,?_⟩
          refine hK.out _ _ (cc2_ BK262.out) (fun hHeld=>?_)
          clear hK K
          refine nm_ 28 ?_
          refine pu_ 10 30 #[I,I,I,I,I,I,I,I,I,I,I,O,O,O,O] HT_.out ?_
          refine o1_ 11 31 #[I,I,I,I,I,I,I,I,I,I,I,I,O,O,O] HT_.out (fun K hK=>?_)
          refine value_ (w1:=?_) (v:=?_) (by rfl) rfl ?_ ?_
          rotate_left 2
          ·go_simp
           constructor
           ·rfl
           ·rfl
          refine hK.out _ _ (cc2_ (blk_alloc BK262.out _)) (fun hHeld=>?_)
          clear hK K
          refine nm_ 31 ?_
          refine o1_ 12 32 #[I,I,I,I,I,I,I,I,I,I,I,I,I,O,O] HT_.out (fun K hK=>?_)
          refine Kd.R_append_step k57 (w0:=w) w.heap.size (by rfl) (.tmp 21) (.tmp 31) 27 57 (.agg #[(.int .i64 0),(.int .i64 0)]) 16 rfl Tryd.underlying27 info57 rfl (by decide) (by omega) u263001 x263001_2 (⟨t266,x6_1⟩:S57) [.int .i64 t266,.int .i64 x6_1] (fun _=>True) (fun _=>False) rfl rfl ?aP (fun _ hk=>hk.elim) ?aF ?aO ?aB ?aS ?aL ?_
          (case aP=>exact k57_mkM _ _ _ (⟨t266,x6_1⟩:S57))
          (case aB=>exact (z7_ HB.out GE261.out GE262.out))
          (case aF=>exact (fun _ _=>trivial))
          (case aO=>exact (z2_ HO_263001.out))
          (case aS=>exact (below_size (z7_ HB.out GE261.out GE262.out)))
          (case aL=>have:=LMc14.out;omega)
          intro v268 w16 ho hb hg hat
          rw [← Ny267.out] at ho
          refine as4_ (blk_grown (g:=gb261) (o:=.cells #[.int .i64 0,.slice none 0 0] 29 (0,0)) (z4_ BK261.out) hg (Kd.R_ne HO_263001.out BK261.out (by decide))) (blk_grown (g:=gb262) (o:=.cells #[.int .i64 a0,u263001] 29 (0,0)) (z4_ BK262.out) hg (Kd.R_ne HO_263001.out BK262.out (by decide))) (hb) (ho) ?_
          clear BK261 BK262 HB HO_263001
          intro BK261 BK262 HB HO269
          clear ho hb hg hat
          obtain ⟨Ao17,co17,eo17⟩:=Kd.R_slice HO269.out
          (first | subst eo17 | (injection eo17 with f1_ f2_ f3_;have f4_:=f1_.symm;have f5_:=f3_.symm;clear f1_ f2_ f3_;subst f4_;subst f5_))
          refine hK.out _ _ (cc2_ BK262.out) (fun hHeld=>?_)
          clear hK K
          refine nm_ 32 ?_
          refine pu_ 13 33 #[I,I,I,I,I,I,I,I,I,I,I,I,I,I,O] HT_.out ?_
          refine last_ (i:=14) (N:=none) #[I,I,I,I,I,I,I,I,I,I,I,I,I,I,I] rfl rfl (one_of HT_.out (by kernel_rfl)) (by decide) (fun K hK=>?_)
          have hs18:w16.cell? ⟨gb262,1,none⟩=some (u263001):=(blk_cell BK262.out 1).trans rfl
          have hfs18:=blk_frozen BK262.out 1
          have hns18_0:=NB261_262.out
          have hms18_0:=NB262_261.out
          refine skip_ (w1:=?_) (by rfl) rfl ?_ ?_
          rotate_left
          ·go_simp
           rfl
          refine hK.out _ _ ?_
          clear hK K
          refine done_ (done_of HT_.out (by kernel_rfl)) ?_
          try go_wp2
          go_roundg k2
          case measure=>have:=HK1.out;have:=HK2.out;omega
          case rel=>exact ⟨(wrap64 (x7_2+1)),(y267),(.slice Ao17 y267.length co17),(z1_),H',⟨by have:=HK1.out;have:=HK2.out;omega⟩,⟨by (with_reducible repeat (first | apply Kd.R_alloc | apply Kd.R_drewN | apply Kd.R_drew));exact Kd.R_mono (Kd.R_far (p:=⟨gb262,1,none⟩) (Kd.R_types HO269.out BK262.out (by decide)) (fun _ hk=>hk.2) (.slice Ao17 y267.length co17)) (fun _ hk=>trivial)⟩,⟨z26_ NB261_262.out BK261.out⟩,⟨by (with_reducible repeat (first | refine blk_drewN ?_ _ | refine blk_drew ?_ | refine blk_alloc ?_ _));refine blk_put (cs:=#[.int .i64 a0,u263001]) ?_ 1 _ rfl;(with_reducible repeat (first | refine blk_drewN ?_ _ | refine blk_drew ?_ | refine blk_alloc ?_ _));exact BK262.out⟩,⟨z7_ HB.out GE261.out GE262.out⟩⟩
         ·rw [if_neg c14] at H
          exact absurd H (by simp)
        ·rw [if_neg c12] at H
         exact absurd H (by simp)
       ·rw [if_neg c10] at H
        exact absurd H (by simp)
      ·rw [if_neg c8] at H
       have c8b0:decide (x7_2≤a1)=false:=decide_eq_false c8
       clear c8
       have H':=Aside0.mk H
       clear H
       go_wp2
       go_roundg k2
       case measure=>have:=HK1.out;have:=HK2.out;omega
       case rel=>exact ⟨(wrap64 (x6_1+1)),(x263001_2),(u263001),(z1_),H',⟨by have:=HK1.out;have:=HK2.out;omega⟩,⟨z2_ HO_263001.out⟩,⟨z4_ BK261.out⟩,⟨z4_ BK262.out⟩,⟨z7_ HB.out GE261.out GE262.out⟩⟩
   ·rw [if_neg c7] at H
    have c7b0:decide (x6_1≤a0)=false:=decide_eq_false c7
    clear c7
    replace H:=Option.bind_eq_some_iff.mp H
    obtain ⟨t263,A190,H⟩:=H
    replace H:(some (a0,t263))=some (r1,r2):=H
    have A19:=Aside0.mk A190
    clear A190
    simp only [Option.some.injEq,Prod.mk.injEq] at H
    obtain ⟨rfl,rfl⟩:=H
    have hnb20:=NB262_261.out
    have hnc20:=NB261_262.out
    have ⟨hcz21_0,hcz21_1,hfz21_0,hfz21_1⟩:=cz2_ BK262.out
    obtain ⟨Ao22,co22,eo22⟩:=Kd.R_slice HO_263001.out
    subst eo22
    go_wp2_with (first | ((with_reducible refine gc_ 66 ?_);refine gl_ (some 36) Tryd.func66 #[.slice Ao22 x263001_1.length co22,.func (.func 67) #[] #[]] ?_;(with_reducible refine (slices_SortFunc_impl_Token_impl_Token_impl_ringNew_1.calls k1 (fun k_=>some k_=(.slice Ao22 x263001_1.length co22:Value).ownBlock) (.slice Ao22 x263001_1.length co22) x263001_1  t263 w _ ?s1 ?s2 A19.out).mono ?_);(case s1=>repeat (first | (with_reducible first | exact HB.out | apply below_alloc | apply pw_below_drewN | apply below_drew1 | refine below_set ?_ GE261.out | refine below_set ?_ GE262.out) | exact HB.out));(case s2=>exact Kd.R_tight rfl HO_263001.out);rintro e w23 ⟨rfl,hy0,hb,hkp⟩;refine ⟨_,rfl,?_⟩;refine as4_ (Kd.R_reok rfl hy0 (fun k_ e_=>HO_263001.out.1 k_ e_)) (blk_kept (z4_ BK261.out) hkp (fun hs_=>(fun e_=>(Kd.R_ne HO_263001.out BK261.out (by decide)) e_) hs_)) (blk_kept (z4_ BK262.out) hkp (fun hs_=>(fun e_=>(Kd.R_ne HO_263001.out BK262.out (by decide)) e_) hs_)) (hb) ?_;clear HO_263001 BK261 BK262 HB;intro HO_263001 BK261 BK262 HB;(try clear hb);(try clear hkp);(try clear hy0);have ⟨hcz24_0,hcz24_1,hfz24_0,hfz24_1⟩:=cz2_ BK262.out;have ⟨hcz25_0,hcz25_1,hfz25_0,hfz25_1⟩:=cz2_ BK261.out))
    refine bodyPost_ret (results_cell_row rfl _ _ gb261 29 #[.int .i64 a0,.slice Ao22 x263001_1.length co22] (0,0) _ rfl (z20_ BK261.out) Tryd.underlying29 rfl (by kernel_rfl)) rfl ?_
    exact ⟨_,z9_,z30_ HO_263001.out BK261.out,z7_ HB.out GE261.out GE262.out⟩


attribute [local go_sem high] eqA57
/-! ### slices_Equal_impl_Token_impl_Token: function 41 -/
def slices_Equal_impl_Token_impl_Token.l0:Nat→List (S57)→List (S57)→Int→Int→Option (Bool)
 | 0,_,_,_,_=>none
 | k+1,x0,x1,x12,x13=>if x13<x12 then (if 0≤x13 then (if x13<(x0.length:Int) then (if x13<(x1.length:Int) then (if (!(((rd_T57 x0 x13).f0) == ((rd_T57 x1 x13).f0)) || (!(((rd_T57 x0 x13).f1) == ((rd_T57 x1 x13).f1))))=true then (some false) else (slices_Equal_impl_Token_impl_Token.l0 k x0 x1 x12 (wrap64 (x13+1)))) else (none)) else (none)) else (none)) else (some true)
def slices_Equal_impl_Token_impl_Token.f (k:Nat) (l0:List (S57)) (l1:List (S57)):Option (Bool):=if (l0.length:Int)=(l1.length:Int) then (slices_Equal_impl_Token_impl_Token.l0 k l0 l1 (l0.length:Int) 0) else (some false)
theorem slices_Equal_impl_Token_impl_Token.mono_l:∀ k,(∀ y0 y1 y2 y3,LeO (slices_Equal_impl_Token_impl_Token.l0 k y0 y1 y2 y3) (slices_Equal_impl_Token_impl_Token.l0 (k+1) y0 y1 y2 y3))
 | 0=>fun _ _ _ _ r h=>by simp [slices_Equal_impl_Token_impl_Token.l0] at h
 | k+1=>by
  have ih0:=slices_Equal_impl_Token_impl_Token.mono_l k
  ·intro y0 y1 y2 y3
   unfold slices_Equal_impl_Token_impl_Token.l0
   repeat' first
   | (with_reducible exact ih0 _ _ _ _)
   | (with_reducible exact LeO.refl _)
   | (with_reducible exact LeO.none _)
   | (with_reducible refine LeO.ite ?_ ?_)
   | (with_reducible refine LeO.bind ?_ (fun _=>?_))
   | exact ih0 _ _ _ _
   | exact LeO.none _
   | refine LeO.ite ?_ ?_
   | refine LeO.bind ?_ (fun _=>?_)
theorem slices_Equal_impl_Token_impl_Token.mono:∀ a0 a1 k,LeO (slices_Equal_impl_Token_impl_Token.f k a0 a1) (slices_Equal_impl_Token_impl_Token.f (k+1) a0 a1):=by
 intro a0 a1 k
 have ih0:=slices_Equal_impl_Token_impl_Token.mono_l k
 unfold slices_Equal_impl_Token_impl_Token.f
 repeat' first
   | (with_reducible exact ih0 _ _ _ _)
   | (with_reducible exact LeO.refl _)
   | (with_reducible exact LeO.none _)
   | (with_reducible refine LeO.ite ?_ ?_)
   | (with_reducible refine LeO.bind ?_ (fun _=>?_))
   | exact ih0 _ _ _ _
   | exact LeO.none _
   | refine LeO.ite ?_ ?_
   | refine LeO.bind ?_ (fun _=>?_)
set_option maxHeartbeats 8000000 in
set_option maxRecDepth 100000 in
theorem slices_Equal_impl_Token_impl_Token.calls (k:Nat) (A0:Option Addr) (c0:Nat) (l0:List (S57)) (A1:Option Addr) (c1:Nat) (l1:List (S57)) (r:Bool) (w:World) (hr0:Kd.C k57 w A0 l0.length l0) (hc0:l0.length≤c0) (hr1:Kd.C k57 w A1 l1.length l1) (hc1:l1.length≤c1) (h:slices_Equal_impl_Token_impl_Token.f k l0 l1=some r) :
  Calls Tryd.prog 41 #[.slice A0 l0.length c0,.slice A1 l1.length c1] w fun e w'=>e = .returned (.bool r)∧Drawn0 w w':=by
 have hu57:=Tryd.underlying57
 have HR0:=Aside0.mk hr0
 have HC0:=Aside0.mk hc0
 clear hr0 hc0
 have HR1:=Aside0.mk hr1
 have HC1:=Aside0.mk hc1
 clear hr1 hc1
 have H:(if (l0.length:Int)=(l1.length:Int) then (slices_Equal_impl_Token_impl_Token.l0 k l0 l1 (l0.length:Int) 0) else (some false))=some r:=h
 clear h
 by_cases c3:(l0.length:Int)=(l1.length:Int)
 ·rw [if_pos c3] at H
  have c3b0:((l0.length:Int) == (l1.length:Int))=true:=beq_iff_eq.mpr c3
  have c3b1:((l0.length:Int) != (l1.length:Int))=false:=bne_eq_false_iff_eq.mpr c3
  have c3b2:(l0.length == l1.length)=true:=by first | simpa using c3 | (simp at c3 ⊢;omega)
  clear c3
  have H':=Aside0.mk H
  clear H
  go_enter Tryd.func41,Tryd.ntmps41
  go_wp2
  repeat (go_quiet (fail);try go_wp2)
  go_loopg [13] k (fun kq v13 w'=>∃ (x13_1:Int),v13 = .int .i64 x13_1∧Aside0 (slices_Equal_impl_Token_impl_Token.l0 kq l0 l1 (l0.length:Int) x13_1=some r)∧Aside0 (kq≤k)∧Drawn0 w w')
  case atStart=>exact ⟨(0),(z1_),H',⟨Nat.le_refl _⟩,z6_⟩
  case round =>
   clear H'
   try clear c1
   try clear p2
   try clear c3
   try clear c3b0
   try clear c3b1
   try clear c3b2
   obtain ⟨x13_1,rfl,HA,HK1,⟨m1,rfl⟩⟩:=hrel
   cases gk with
   | zero=>exact absurd HA.out (by simp [slices_Equal_impl_Token_impl_Token.l0])
   | succ k1 =>
    have H:=HA.out
    clear HA
    simp only [slices_Equal_impl_Token_impl_Token.l0] at H
    by_cases c4:x13_1<(l0.length:Int)
    ·rw [if_pos c4] at H
     have c4b0:decide (x13_1<(l0.length:Int))=true:=decide_eq_true c4
     clear c4
     by_cases c5:0≤x13_1
     ·rw [if_pos c5] at H
      have c5b0:decide (0≤x13_1)=true:=decide_eq_true c5
      clear c5
      by_cases c6:x13_1<(l0.length:Int)
      ·rw [if_pos c6] at H
       have c6b0:decide (x13_1<(l0.length:Int))=true:=decide_eq_true c6
       clear c6
       by_cases c7:x13_1<(l1.length:Int)
       ·rw [if_pos c7] at H
        have c7b0:decide (x13_1<(l1.length:Int))=true:=decide_eq_true c7
        clear c7
        by_cases c8:(!(((rd_T57 l0 x13_1).f0) == ((rd_T57 l1 x13_1).f0)) || (!(((rd_T57 l0 x13_1).f1) == ((rd_T57 l1 x13_1).f1))))=true
        ·rw [if_pos c8] at H
         have c8b0:(!(((rd_T57 l0 x13_1).f0) == ((rd_T57 l1 x13_1).f0)) || (!(((rd_T57 l0 x13_1).f1) == ((rd_T57 l1 x13_1).f1))))=true:=c8
         clear c8
         obtain rfl:=Option.some.inj H
         have p165:0≤(x13_1:Int):=of_decide_eq_true (z0_)
         have q165:x13_1<(l0.length:Int):=of_decide_eq_true (z0_)
         obtain ⟨ad165,e165,hx165_0,hx165_1⟩:=at_T57 HR0.out x13_1 p165 q165
         cases e165
         replace p165:=eq_true p165
         replace q165:=eq_true q165
         have p166:0≤(x13_1:Int):=of_decide_eq_true (z0_)
         have q166:x13_1<(l1.length:Int):=of_decide_eq_true (z0_)
         obtain ⟨ad166,e166,hx166_0,hx166_1⟩:=at_T57 HR1.out x13_1 p166 q166
         cases e166
         replace p166:=eq_true p166
         replace q166:=eq_true q166
         go_wp2
         repeat (go_quiet (fail);try go_wp2)
         go_ret
         exact ⟨z1_,z6_⟩
        ·rw [if_neg c8] at H
         have c8b0:(!(((rd_T57 l0 x13_1).f0) == ((rd_T57 l1 x13_1).f0)) || (!(((rd_T57 l0 x13_1).f1) == ((rd_T57 l1 x13_1).f1))))=false:=by simpa using c8
         clear c8
         have H':=Aside0.mk H
         clear H
         have p165:0≤(x13_1:Int):=of_decide_eq_true (z0_)
         have q165:x13_1<(l0.length:Int):=of_decide_eq_true (z0_)
         obtain ⟨ad165,e165,hx165_0,hx165_1⟩:=at_T57 HR0.out x13_1 p165 q165
         cases e165
         replace p165:=eq_true p165
         replace q165:=eq_true q165
         have p166:0≤(x13_1:Int):=of_decide_eq_true (z0_)
         have q166:x13_1<(l1.length:Int):=of_decide_eq_true (z0_)
         obtain ⟨ad166,e166,hx166_0,hx166_1⟩:=at_T57 HR1.out x13_1 p166 q166
         cases e166
         replace p166:=eq_true p166
         replace q166:=eq_true q166
         go_wp2
         repeat (go_quiet (fail);try go_wp2)
         go_roundg k1
         case measure=>have:=HK1.out;omega
         case rel=>exact ⟨(wrap64 (x13_1+1)),(z1_),H',⟨by have:=HK1.out;omega⟩,z6_⟩
       ·rw [if_neg c7] at H
        exact absurd H (by simp)
      ·rw [if_neg c6] at H
       exact absurd H (by simp)
     ·rw [if_neg c5] at H
      exact absurd H (by simp)
    ·rw [if_neg c4] at H
     have c4b0:decide (x13_1<(l0.length:Int))=false:=decide_eq_false c4
     clear c4
     obtain rfl:=Option.some.inj H
     go_wp2
     repeat (go_quiet (fail);try go_wp2)
     go_ret
     exact ⟨z1_,z6_⟩
 ·rw [if_neg c3] at H
  have c3b0:((l0.length:Int) == (l1.length:Int))=false:=beq_eq_false_iff_ne.mpr c3
  have c3b1:((l0.length:Int) != (l1.length:Int))=true:=bne_iff_ne.mpr c3
  have c3b2:(l0.length == l1.length)=false:=by first | simpa using c3 | (simp at c3 ⊢;omega)
  obtain rfl:=Option.some.inj H
  go_enter Tryd.func41,Tryd.ntmps41
  go_wp2
  repeat (go_quiet (fail);try go_wp2)
  go_ret
  exact ⟨z1_,z6_⟩


/-! ### impl_RingRight: function 13 -/
def impl_RingRight.f (k:Nat) (a0_0:Int) (l0_1:List (S57)):Option (Bool):=(impl_isNode.f a0_0).bind fun t271=>(if t271=true then (if a0_0=0 then (none) else ((impl_within.f (wrap64 ((l0_1.length:Int) / a0_0)) 1 8).bind fun t272=>(if t272=true then ((impl_ringNew.f k a0_0 (wrap64 ((l0_1.length:Int) / a0_0))).bind fun bt273=>((slices_Equal_impl_Token_impl_Token.f k l0_1 bt273.2).bind fun t277=>(some t277))) else (some false)))) else (some false))
theorem impl_RingRight.mono:∀ a0 a1 k,LeO (impl_RingRight.f k a0 a1) (impl_RingRight.f (k+1) a0 a1):=by
 intro a0 a1 k
 unfold impl_RingRight.f
 repeat' first
   | (with_reducible exact impl_ringNew.mono _ _ _)
   | (with_reducible exact slices_Equal_impl_Token_impl_Token.mono _ _ _)
   | (with_reducible exact LeO.refl _)
   | (with_reducible exact LeO.none _)
   | (with_reducible refine LeO.ite ?_ ?_)
   | (with_reducible refine LeO.bind ?_ (fun _=>?_))
   | exact impl_ringNew.mono _ _ _
   | exact slices_Equal_impl_Token_impl_Token.mono _ _ _
   | exact LeO.none _
   | refine LeO.ite ?_ ?_
   | refine LeO.bind ?_ (fun _=>?_)
def impl_RingRight.T4:Bool × List (List Nat × List Nat):=(true,[([],[]),([0],[0]),([1,1],[1]),([2],[2]),([3,2],[2,3]),([2],[2]),([5,2],[2,5]),([2],[2]),([6,7,2,2],[2,6,7]),([8,2],[2,8]),([4,9,8,2],[2,4,9]),([2,10],[2,10]),([11,10,0,1,2,3,4,5,6,7,8,9,10,11],[11])])
def impl_RingRight.B4:List Nat:=[0,1,3,7,15,7,39,7,231,487,1023,2047,4095]
theorem impl_RingRight.tab4:rtab .any (opsOf Tryd.f13 4)=impl_RingRight.T4:=by kernel_rfl
theorem impl_RingRight.bits4:waitsOk impl_RingRight.T4.2 impl_RingRight.B4=true:=by kernel_rfl
abbrev impl_RingRight.q0:Array Bool:=#[O,O,O,O,O,O,O,O,O,O,O,O,O]
abbrev impl_RingRight.q1:Array Bool:=#[I,O,O,O,O,O,O,O,O,O,O,O,O]
abbrev impl_RingRight.q2:Array Bool:=#[I,I,O,O,O,O,O,O,O,O,O,O,O]
abbrev impl_RingRight.q3:Array Bool:=#[I,I,I,O,O,O,O,O,O,O,O,O,O]
abbrev impl_RingRight.q4:Array Bool:=#[I,I,I,I,O,O,O,O,O,O,O,O,O]
abbrev impl_RingRight.q5:Array Bool:=#[I,I,I,I,I,I,I,I,O,O,O,O,O]
abbrev impl_RingRight.q6:Array Bool:=#[I,I,I,I,I,I,I,I,I,O,O,O,O]
abbrev impl_RingRight.q7:Array Bool:=#[I,I,I,I,I,I,I,I,I,I,O,O,O]
abbrev impl_RingRight.q8:Array Bool:=#[I,I,I,I,I,I,I,I,I,I,I,O,O]
abbrev impl_RingRight.q9:Array Bool:=#[I,I,I,I,I,I,I,I,I,I,I,I,O]
abbrev impl_RingRight.q10:Array Bool:=#[I,I,I,I,I,I,I,I,I,I,I,I,I]
set_option maxHeartbeats 8000000 in
set_option maxRecDepth 100000 in
theorem impl_RingRight.calls (k:Nat) (a0_0:Int) (A0_1:Option Addr) (c0_1:Nat) (l0_1:List (S57)) (r:Bool) (w:World) (hr0_1:Kd.C k57 w A0_1 l0_1.length l0_1) (hc0_1:l0_1.length≤c0_1) (h:impl_RingRight.f k a0_0 l0_1=some r) :
  Calls Tryd.prog 13 #[.agg #[.int .i64 a0_0,.slice A0_1 l0_1.length c0_1]] w fun e w'=>e = .returned (.bool r)∧Below w.heap.size w w':=by
 have hu29:=Tryd.underlying29
 have hfd29:∀ (a:Int) (v:Value) (w:World),(Instr.field 29 (.agg #[.int .i64 a,v]) 1).run Tryd.prog w = .ok v w:=fun _ _ _=>by kernel_rfl
 have HR0_1:=Aside0.mk hr0_1
 have HC0_1:=Aside0.mk hc0_1
 clear hr0_1 hc0_1
 have HB:=Aside0.mk (Below.refl w.heap.size w)
 have H:((impl_isNode.f a0_0).bind fun t271=>(if t271=true then (if a0_0=0 then (none) else ((impl_within.f (wrap64 ((l0_1.length:Int) / a0_0)) 1 8).bind fun t272=>(if t272=true then ((impl_ringNew.f k a0_0 (wrap64 ((l0_1.length:Int) / a0_0))).bind fun bt273=>((slices_Equal_impl_Token_impl_Token.f k l0_1 bt273.2).bind fun t277=>(some t277))) else (some false)))) else (some false)))=some r:=h
 clear h
 replace H:=Option.bind_eq_some_iff.mp H
 obtain ⟨t271,A20,H⟩:=H
 replace H:(if t271=true then (if a0_0=0 then (none) else ((impl_within.f (wrap64 ((l0_1.length:Int) / a0_0)) 1 8).bind fun t272=>(if t272=true then ((impl_ringNew.f k a0_0 (wrap64 ((l0_1.length:Int) / a0_0))).bind fun bt273=>((slices_Equal_impl_Token_impl_Token.f k l0_1 bt273.2).bind fun t277=>(some t277))) else (some false)))) else (some false))=some r:=H
 have A2:=Aside0.mk A20
 clear A20
 by_cases c3:t271=true
 ·subst c3
  have H1:(if a0_0=0 then (none) else ((impl_within.f (wrap64 ((l0_1.length:Int) / a0_0)) 1 8).bind fun t272=>(if t272=true then ((impl_ringNew.f k a0_0 (wrap64 ((l0_1.length:Int) / a0_0))).bind fun bt273=>((slices_Equal_impl_Token_impl_Token.f k l0_1 bt273.2).bind fun t277=>(some t277))) else (some false))))=some r:=by rw [if_pos rfl] at H;exact H
  clear H
  have H:=H1
  clear H1
  by_cases c4:a0_0=0
  ·rw [if_pos c4] at H
   exact absurd H (by simp)
  ·rw [if_neg c4] at H
   have c4b0:(a0_0 == 0)=false:=beq_eq_false_iff_ne.mpr c4
   have c4b1:(a0_0 != 0)=true:=bne_iff_ne.mpr c4
   replace H:=Option.bind_eq_some_iff.mp H
   obtain ⟨t272,A50,H⟩:=H
   replace H:(if t272=true then ((impl_ringNew.f k a0_0 (wrap64 ((l0_1.length:Int) / a0_0))).bind fun bt273=>((slices_Equal_impl_Token_impl_Token.f k l0_1 bt273.2).bind fun t277=>(some t277))) else (some false))=some r:=H
   have A5:=Aside0.mk A50
   clear A50
   by_cases c6:t272=true
   ·subst c6
    have H1:((impl_ringNew.f k a0_0 (wrap64 ((l0_1.length:Int) / a0_0))).bind fun bt273=>((slices_Equal_impl_Token_impl_Token.f k l0_1 bt273.2).bind fun t277=>(some t277)))=some r:=by rw [if_pos rfl] at H;exact H
    clear H
    have H:=H1
    clear H1
    replace H:=Option.bind_eq_some_iff.mp H
    obtain ⟨⟨t273,t274⟩,A70,H⟩:=H
    replace H:((slices_Equal_impl_Token_impl_Token.f k l0_1 t274).bind fun t277=>(some t277))=some r:=H
    have A7:=Aside0.mk A70
    clear A70
    replace H:=Option.bind_eq_some_iff.mp H
    obtain ⟨t277,A80,H⟩:=H
    replace H:(some t277)=some r:=H
    have A8:=Aside0.mk A80
    clear A80
    obtain rfl:=Option.some.inj H
    go_enter Tryd.func13,Tryd.ntmps13
    try go_wp2_with (first | ((with_reducible refine gd_ 1 ?_);refine be_ 1 #[.int .i64 a0_0,.slice A0_1 l0_1.length c0_1] 29 ?_;intro gb270 hg w9 hbox hb;refine as4_ (below_step (z3_ HB.out) hb) (hbox) ((z8_ HB.out:w.heap.size≤gb270)) ((z8_ HB.out:w.heap.size≤gb270)) ?_;clear HB;intro HB BK270 GW270 GE270;clear hb hbox hg;have ⟨hcz10_0,hcz10_1,hfz10_0,hfz10_1⟩:=cz2_ BK270.out) | ((with_reducible refine gc_ 39 ?_);refine gl_ (some 6) Tryd.func39 #[.int .i64 a0_0] ?_;(with_reducible refine (impl_isNode.calls a0_0 true _ A2.out).mono ?_);rintro e w' ⟨rfl,⟨nd,rfl⟩⟩;refine ⟨_,rfl,?_⟩))
    (try (rw [drewN_self w9];generalize hq_:World.drewN w9 _=w9;have n0_:Aside0 (w9.heap[gb270]? = some (.cells #[.int .i64 a0_0,.slice A0_1 l0_1.length c0_1] 29 (0,0))):=⟨by rw [← hq_];exact (by (with_reducible repeat (first | refine blk_drewN ?_ _ | refine blk_drew ?_ | refine blk_alloc ?_ _));exact BK270.out)⟩;have n1_:Aside0 (Below w.heap.size w w9):=⟨by rw [← hq_];exact (by repeat (first | (with_reducible first | exact HB.out | apply below_alloc | apply pw_below_drewN | apply below_drew1 | refine below_set ?_ GE270.out) | exact HB.out))⟩;clear BK270 HB hq_;have BK270:=n0_;have HB:=n1_;clear n0_ n1_))
    refine as2_ (blk_drew BK270.out) (below_drew1 HB.out) ?_
    clear BK270 HB
    intro BK270 HB
    refine start_ (n:=13) (S:=fun w'=>w'.cell? ⟨gb270,0,none⟩=some (.int .i64 a0_0)∧w'.cell? ⟨gb270,1,none⟩=some (.slice A0_1 l0_1.length c0_1)) (ds:=[]) impl_RingRight.q0 (by kernel_rfl) rfl rfl (cc2_ BK270.out) (fun hHeld=>?_);refine with_tabW impl_RingRight.tab4 impl_RingRight.bits4 (fun HT_ HW_=>?_)
    generalize w9.drew=w11 at BK270 HB hHeld ⊢
    refine pu_ 0 14 impl_RingRight.q1 HT_.out ?_
    refine o1_ 1 15 impl_RingRight.q2 HT_.out (fun K hK=>?_)
    refine gs_ Tryd.func40 #[.int .i64 (wrap64 ((l0_1.length:Int) / a0_0)),.int .i64 1,.int .i64 8] ?_
    with_reducible refine (impl_within.calls (wrap64 ((l0_1.length:Int) / a0_0)) 1 8 true _ A5.out).mono ?_
    rintro e w' ⟨rfl,⟨nd,rfl⟩⟩
    refine ⟨_,rfl,?_⟩
    refine hK.out _ _ (cc2_ BK270.out) (fun hHeld=>?_)
    clear hK K
    refine nm_ 15 ?_
    refine pu_ 2 16 impl_RingRight.q3 HT_.out ?_
    refine pu_ 3 17 impl_RingRight.q4 HT_.out ?_
    refine pu_ 5 19 #[I,I,I,I,O,I,O,O,O,O,O,O,O] HT_.out ?_
    refine pu_ 7 21 #[I,I,I,I,O,I,O,I,O,O,O,O,O] HT_.out ?_
    refine tk2_ 4 18 #[I,I,I,I,I,I,O,I,O,O,O,O,O] HT_.out HW_.out hHeld ?_
    refine tk2_ 6 20 impl_RingRight.q5 HT_.out HW_.out hHeld ?_
    refine o1_ 8 22 impl_RingRight.q6 HT_.out (fun K hK=>?_)
    refine gs_ Tryd.func42 #[.int .i64 a0_0,.int .i64 (wrap64 ((l0_1.length:Int) / a0_0))] ?_
    with_reducible refine (impl_ringNew.calls k a0_0 (wrap64 ((l0_1.length:Int) / a0_0)) t273 t274 _ A7.out).mono ?_
    rintro e w12 ⟨v275,rfl,ho0,hb⟩
    refine ⟨_,rfl,?_⟩
    refine as3_ (Kd.R_lower ho0 (below_size (z11_ HB.out GE270.out))) (blkB_ BK270.out hb) (below_step (z11_ HB.out GE270.out) hb) ?_
    clear BK270 HB
    intro HO276 BK270 HB
    (try clear hb)
    (try clear ho0)
    obtain ⟨Ao13,co13,eo13⟩:=Kd.R_slice HO276.out
    (first | subst eo13 | (injection eo13 with f1_ f2_ f3_;have f4_:=f1_.symm;have f5_:=f3_.symm;clear f1_ f2_ f3_;subst f4_;subst f5_))
    refine hK.out _ _ (cc2_ BK270.out) (fun hHeld=>?_)
    clear hK K
    refine nm_ 22 ?_
    refine pu_ 9 23 impl_RingRight.q7 HT_.out ?_
    refine o1_ 10 24 impl_RingRight.q8 HT_.out (fun K hK=>?_)
    refine gs_ Tryd.func41 #[.slice A0_1 l0_1.length c0_1,.slice Ao13 t274.length co13] ?_
    with_reducible refine (slices_Equal_impl_Token_impl_Token.calls k _ _ l0_1 _ _ t274 t277 _ ?s1 ?s2 ?s3 ?s4 A8.out).mono ?_
    (case s1=>repeat (first | exact (Kd.C_below HR0_1.out HB.out) | (with_reducible refine Kd.C_alloc ?_ _) | (with_reducible refine Kd.C_drewN ?_ _) | (with_reducible refine Kd.C_drew ?_)))
    (case s2=>exact HC0_1.out)
    (case s3=>repeat (first | exact (Kd.R_reads' HO276.out).2.2 | (with_reducible refine Kd.C_alloc ?_ _) | (with_reducible refine Kd.C_drewN ?_ _) | (with_reducible refine Kd.C_drew ?_)))
    (case s4=>exact (Kd.R_reads' HO276.out).2.1)
    rintro e w' ⟨rfl,⟨nd,rfl⟩⟩
    refine ⟨_,rfl,?_⟩
    refine hK.out _ _ (cc2_ BK270.out) (fun hHeld=>?_)
    clear hK K
    refine nm_ 24 ?_
    refine pu_ 11 25 impl_RingRight.q9 HT_.out ?_
    refine pu_ 12 2 impl_RingRight.q10 HT_.out ?_
    refine done_ (done_of HT_.out (by kernel_rfl)) ?_
    try go_wp2
    go_ret
    exact ⟨z9_,z11_ HB.out GE270.out⟩
   ·replace c6:=Bool.eq_false_iff.mpr c6
    subst c6
    have H1:(some false)=some r:=by rw [if_neg (show ¬ (false=true) by decide)] at H;exact H
    clear H
    have H:=H1
    clear H1
    obtain rfl:=Option.some.inj H
    go_enter Tryd.func13,Tryd.ntmps13
    try go_wp2_with (first | ((with_reducible refine gd_ 1 ?_);refine be_ 1 #[.int .i64 a0_0,.slice A0_1 l0_1.length c0_1] 29 ?_;intro gb270 hg w14 hbox hb;refine as4_ (below_step (z3_ HB.out) hb) (hbox) ((z8_ HB.out:w.heap.size≤gb270)) ((z8_ HB.out:w.heap.size≤gb270)) ?_;clear HB;intro HB BK270 GW270 GE270;clear hb hbox hg;have ⟨hcz15_0,hcz15_1,hfz15_0,hfz15_1⟩:=cz2_ BK270.out) | ((with_reducible refine gc_ 39 ?_);refine gl_ (some 6) Tryd.func39 #[.int .i64 a0_0] ?_;(with_reducible refine (impl_isNode.calls a0_0 true _ A2.out).mono ?_);rintro e w' ⟨rfl,⟨nd,rfl⟩⟩;refine ⟨_,rfl,?_⟩))
    (try (rw [drewN_self w14];generalize hq_:World.drewN w14 _=w14;have n0_:Aside0 (w14.heap[gb270]? = some (.cells #[.int .i64 a0_0,.slice A0_1 l0_1.length c0_1] 29 (0,0))):=⟨by rw [← hq_];exact (by (with_reducible repeat (first | refine blk_drewN ?_ _ | refine blk_drew ?_ | refine blk_alloc ?_ _));exact BK270.out)⟩;have n1_:Aside0 (Below w.heap.size w w14):=⟨by rw [← hq_];exact (by repeat (first | (with_reducible first | exact HB.out | apply below_alloc | apply pw_below_drewN | apply below_drew1 | refine below_set ?_ GE270.out) | exact HB.out))⟩;clear BK270 HB hq_;have BK270:=n0_;have HB:=n1_;clear n0_ n1_))
    refine as2_ (blk_drew BK270.out) (below_drew1 HB.out) ?_
    clear BK270 HB
    intro BK270 HB
    refine start_ (n:=13) (S:=fun w'=>True) (ds:=[]) impl_RingRight.q0 (by kernel_rfl) rfl rfl trivial (fun hHeld=>?_);refine with_tabW impl_RingRight.tab4 impl_RingRight.bits4 (fun HT_ HW_=>?_)
    generalize w14.drew=w16 at BK270 HB hHeld ⊢
    refine pu_ 0 14 impl_RingRight.q1 HT_.out ?_
    refine o1_ 1 15 impl_RingRight.q2 HT_.out (fun K hK=>?_)
    refine gs_ Tryd.func40 #[.int .i64 (wrap64 ((l0_1.length:Int) / a0_0)),.int .i64 1,.int .i64 8] ?_
    with_reducible refine (impl_within.calls (wrap64 ((l0_1.length:Int) / a0_0)) 1 8 false _ A5.out).mono ?_
    rintro e w' ⟨rfl,⟨nd,rfl⟩⟩
    refine ⟨_,rfl,?_⟩
    refine hK.out _ _ trivial (fun hHeld=>?_)
    clear hK K
    refine nm_ 15 ?_
    refine pu_ 2 16 impl_RingRight.q3 HT_.out ?_
    refine pn_ 3 17 impl_RingRight.q4 HT_.out ?_
    refine pn_ 4 18 #[I,I,I,I,I,O,O,O,O,O,O,O,O] HT_.out ?_
    refine pn_ 5 19 #[I,I,I,I,I,I,O,O,O,O,O,O,O] HT_.out ?_
    refine pn_ 6 20 #[I,I,I,I,I,I,I,O,O,O,O,O,O] HT_.out ?_
    refine pn_ 7 21 impl_RingRight.q5 HT_.out ?_
    refine pn_ 8 22 impl_RingRight.q6 HT_.out ?_
    refine pn_ 9 23 impl_RingRight.q7 HT_.out ?_
    refine pn_ 10 24 impl_RingRight.q8 HT_.out ?_
    refine pu_ 11 25 impl_RingRight.q9 HT_.out ?_
    refine pu_ 12 2 impl_RingRight.q10 HT_.out ?_
    refine done_ (done_of HT_.out (by kernel_rfl)) ?_
    try go_wp2
    go_ret
    exact ⟨z9_,z11_ HB.out GE270.out⟩
 ·replace c3:=Bool.eq_false_iff.mpr c3
  subst c3
  have H1:(some false)=some r:=by rw [if_neg (show ¬ (false=true) by decide)] at H;exact H
  clear H
  have H:=H1
  clear H1
  obtain rfl:=Option.some.inj H
  go_enter Tryd.func13,Tryd.ntmps13
  go_wp2_with (first | ((with_reducible refine gd_ 1 ?_);refine be_ 1 #[.int .i64 a0_0,.slice A0_1 l0_1.length c0_1] 29 ?_;intro gb270 hg w17 hbox hb;refine as4_ (below_step (z3_ HB.out) hb) (hbox) ((z8_ HB.out:w.heap.size≤gb270)) ((z8_ HB.out:w.heap.size≤gb270)) ?_;clear HB;intro HB BK270 GW270 GE270;clear hb hbox hg;have ⟨hcz18_0,hcz18_1,hfz18_0,hfz18_1⟩:=cz2_ BK270.out) | ((with_reducible refine gc_ 39 ?_);refine gl_ (some 6) Tryd.func39 #[.int .i64 a0_0] ?_;(with_reducible refine (impl_isNode.calls a0_0 false _ A2.out).mono ?_);rintro e w' ⟨rfl,⟨nd,rfl⟩⟩;refine ⟨_,rfl,?_⟩))
  go_ret
  exact ⟨z9_,z11_ HB.out GE270.out⟩


/-! ### laws_FnExactRingRight: function 3 -/
def laws_FnExactRingRight.f (k:Nat) (a0_0:Int) (l0_1:List (S75)):Option (Bool):=(laws_szRing.f a0_0 l0_1 1048576).bind fun t287=>(if t287<0 then (some true) else ((laws_toRing.f k a0_0 l0_1).bind fun bt288=>((spec_RingRight.f k bt288.1 bt288.2).bind fun t292=>((laws_toRing.f k a0_0 l0_1).bind fun bt293=>((impl_RingRight.f k bt293.1 bt293.2).bind fun t298=>(if (t298 != t292)=true then (none) else ((laws_toRing.f k a0_0 l0_1).bind fun bt299=>((laws_eqRing.f k bt293.1 bt293.2 bt299.1 bt299.2).bind fun t303=>(if t303=true then (some true) else (none))))))))))
theorem laws_FnExactRingRight.mono:∀ a0 a1 k,LeO (laws_FnExactRingRight.f k a0 a1) (laws_FnExactRingRight.f (k+1) a0 a1):=by
 intro a0 a1 k
 unfold laws_FnExactRingRight.f
 repeat' first
   | (with_reducible exact impl_RingRight.mono _ _ _)
   | (with_reducible exact laws_eqRing.mono _ _ _ _ _)
   | (with_reducible exact laws_toRing.mono _ _ _)
   | (with_reducible exact spec_RingRight.mono _ _ _)
   | (with_reducible exact LeO.refl _)
   | (with_reducible exact LeO.none _)
   | (with_reducible refine LeO.ite ?_ ?_)
   | (with_reducible refine LeO.bind ?_ (fun _=>?_))
   | exact impl_RingRight.mono _ _ _
   | exact laws_eqRing.mono _ _ _ _ _
   | exact laws_toRing.mono _ _ _
   | exact spec_RingRight.mono _ _ _
   | exact LeO.none _
   | refine LeO.ite ?_ ?_
   | refine LeO.bind ?_ (fun _=>?_)
set_option maxHeartbeats 8000000 in
set_option maxRecDepth 100000 in
theorem laws_FnExactRingRight.calls (k:Nat) (a0_0:Int) (A0_1:Option Addr) (c0_1:Nat) (l0_1:List (S75)) (r:Bool) (w:World) (hr0_1:Kd.C k75 w A0_1 l0_1.length l0_1) (hc0_1:l0_1.length≤c0_1) (h:laws_FnExactRingRight.f k a0_0 l0_1=some r) :
  Calls Tryd.prog 3 #[.agg #[.int .i64 a0_0,.slice A0_1 l0_1.length c0_1]] w fun e w'=>e = .returned (.bool r)∧Below w.heap.size w w':=by
 have hu24:=Tryd.underlying24
 have hu29:=Tryd.underlying29
 have HR0_1:=Aside0.mk hr0_1
 have HC0_1:=Aside0.mk hc0_1
 clear hr0_1 hc0_1
 have HB:=Aside0.mk (Below.refl w.heap.size w)
 have H:((laws_szRing.f a0_0 l0_1 1048576).bind fun t287=>(if t287<0 then (some true) else ((laws_toRing.f k a0_0 l0_1).bind fun bt288=>((spec_RingRight.f k bt288.1 bt288.2).bind fun t292=>((laws_toRing.f k a0_0 l0_1).bind fun bt293=>((impl_RingRight.f k bt293.1 bt293.2).bind fun t298=>(if (t298 != t292)=true then (none) else ((laws_toRing.f k a0_0 l0_1).bind fun bt299=>((laws_eqRing.f k bt293.1 bt293.2 bt299.1 bt299.2).bind fun t303=>(if t303=true then (some true) else (none)))))))))))=some r:=h
 clear h
 replace H:=Option.bind_eq_some_iff.mp H
 obtain ⟨t287,A20,H⟩:=H
 replace H:(if t287<0 then (some true) else ((laws_toRing.f k a0_0 l0_1).bind fun bt288=>((spec_RingRight.f k bt288.1 bt288.2).bind fun t292=>((laws_toRing.f k a0_0 l0_1).bind fun bt293=>((impl_RingRight.f k bt293.1 bt293.2).bind fun t298=>(if (t298 != t292)=true then (none) else ((laws_toRing.f k a0_0 l0_1).bind fun bt299=>((laws_eqRing.f k bt293.1 bt293.2 bt299.1 bt299.2).bind fun t303=>(if t303=true then (some true) else (none))))))))))=some r:=H
 have A2:=Aside0.mk A20
 clear A20
 by_cases c3:t287<0
 ·rw [if_pos c3] at H
  have c3b0:decide (t287<0)=true:=decide_eq_true c3
  clear c3
  obtain rfl:=Option.some.inj H
  go_enter Tryd.func3,Tryd.ntmps3
  go_wp2_with (first | ((with_reducible refine gd_ 1 ?_);refine be_ 1 #[.int .i64 a0_0,.slice A0_1 l0_1.length c0_1] 24 ?_;intro gb286 hg w4 hbox hb;refine as4_ (below_step (z3_ HB.out) hb) (hbox) ((z8_ HB.out:w.heap.size≤gb286)) ((z8_ HB.out:w.heap.size≤gb286)) ?_;clear HB;intro HB BK286 GW286 GE286;clear hb hbox hg;have ⟨hcz5_0,hcz5_1,hfz5_0,hfz5_1⟩:=cz2_ BK286.out) | ((with_reducible refine gc_ 10 ?_);refine gl_ (some 9) Tryd.func10 #[.agg #[.int .i64 a0_0,.slice A0_1 l0_1.length c0_1],.int .i64 1048576] ?_;(with_reducible refine (laws_szRing.calls a0_0 _ _ l0_1 1048576 t287 _ ?s1 ?s2 A2.out).mono ?_);(case s1=>repeat (first | exact (Kd.C_below HR0_1.out HB.out) | (with_reducible refine Kd.C_alloc ?_ _) | (with_reducible refine Kd.C_drewN ?_ _) | (with_reducible refine Kd.C_drew ?_)));(case s2=>exact HC0_1.out);rintro e w6 ⟨rfl,hb⟩;refine ⟨_,rfl,?_⟩;refine as2_ (blkB_ BK286.out hb) (below_step (z11_ HB.out GE286.out) hb) ?_;clear BK286 HB;intro BK286 HB;(try clear hb)))
  go_ret
  exact ⟨z9_,z11_ HB.out GE286.out⟩
 ·rw [if_neg c3] at H
  have c3b0:decide (t287<0)=false:=decide_eq_false c3
  clear c3
  replace H:=Option.bind_eq_some_iff.mp H
  obtain ⟨⟨t288,t289⟩,A70,H⟩:=H
  replace H:((spec_RingRight.f k t288 t289).bind fun t292=>((laws_toRing.f k a0_0 l0_1).bind fun bt293=>((impl_RingRight.f k bt293.1 bt293.2).bind fun t298=>(if (t298 != t292)=true then (none) else ((laws_toRing.f k a0_0 l0_1).bind fun bt299=>((laws_eqRing.f k bt293.1 bt293.2 bt299.1 bt299.2).bind fun t303=>(if t303=true then (some true) else (none))))))))=some r:=H
  have A7:=Aside0.mk A70
  clear A70
  replace H:=Option.bind_eq_some_iff.mp H
  obtain ⟨t292,A80,H⟩:=H
  replace H:((laws_toRing.f k a0_0 l0_1).bind fun bt293=>((impl_RingRight.f k bt293.1 bt293.2).bind fun t298=>(if (t298 != t292)=true then (none) else ((laws_toRing.f k a0_0 l0_1).bind fun bt299=>((laws_eqRing.f k bt293.1 bt293.2 bt299.1 bt299.2).bind fun t303=>(if t303=true then (some true) else (none)))))))=some r:=H
  have A8:=Aside0.mk A80
  clear A80
  replace H:=Option.bind_eq_some_iff.mp H
  obtain ⟨⟨t293,t294⟩,A90,H⟩:=H
  replace H:((impl_RingRight.f k t293 t294).bind fun t298=>(if (t298 != t292)=true then (none) else ((laws_toRing.f k a0_0 l0_1).bind fun bt299=>((laws_eqRing.f k t293 t294 bt299.1 bt299.2).bind fun t303=>(if t303=true then (some true) else (none))))))=some r:=H
  have A9:=Aside0.mk A90
  clear A90
  replace H:=Option.bind_eq_some_iff.mp H
  obtain ⟨t298,A100,H⟩:=H
  replace H:(if (t298 != t292)=true then (none) else ((laws_toRing.f k a0_0 l0_1).bind fun bt299=>((laws_eqRing.f k t293 t294 bt299.1 bt299.2).bind fun t303=>(if t303=true then (some true) else (none)))))=some r:=H
  have A10:=Aside0.mk A100
  clear A100
  by_cases c11:(t298 != t292)=true
  ·rw [if_pos c11] at H
   exact absurd H (by simp)
  ·rw [if_neg c11] at H
   have c11b0:(t298 != t292)=false:=by simpa using c11
   (try (have c11b1:decide (t298=t292)=true:=by simpa using c11))
   (try (have c11b2:(t298 == t292)=true:=by simpa using c11))
   clear c11
   replace H:=Option.bind_eq_some_iff.mp H
   obtain ⟨⟨t299,t300⟩,A120,H⟩:=H
   replace H:((laws_eqRing.f k t293 t294 t299 t300).bind fun t303=>(if t303=true then (some true) else (none)))=some r:=H
   have A12:=Aside0.mk A120
   clear A120
   replace H:=Option.bind_eq_some_iff.mp H
   obtain ⟨t303,A130,H⟩:=H
   replace H:(if t303=true then (some true) else (none))=some r:=H
   have A13:=Aside0.mk A130
   clear A130
   by_cases c14:t303=true
   ·subst c14
    have H1:(some true)=some r:=by rw [if_pos rfl] at H;exact H
    clear H
    have H:=H1
    clear H1
    obtain rfl:=Option.some.inj H
    go_enter Tryd.func3,Tryd.ntmps3
    try go_wp2_with (first | ((with_reducible refine gd_ 1 ?_);refine be_ 1 #[.int .i64 a0_0,.slice A0_1 l0_1.length c0_1] 24 ?_;intro gb286 hg w15 hbox hb;refine as4_ (below_step (z3_ HB.out) hb) (hbox) ((z8_ HB.out:w.heap.size≤gb286)) ((z8_ HB.out:w.heap.size≤gb286)) ?_;clear HB;intro HB BK286 GW286 GE286;clear hb hbox hg;have ⟨hcz16_0,hcz16_1,hfz16_0,hfz16_1⟩:=cz2_ BK286.out) | ((with_reducible refine gc_ 10 ?_);refine gl_ (some 9) Tryd.func10 #[.agg #[.int .i64 a0_0,.slice A0_1 l0_1.length c0_1],.int .i64 1048576] ?_;(with_reducible refine (laws_szRing.calls a0_0 _ _ l0_1 1048576 t287 _ ?s1 ?s2 A2.out).mono ?_);(case s1=>repeat (first | exact (Kd.C_below HR0_1.out HB.out) | (with_reducible refine Kd.C_alloc ?_ _) | (with_reducible refine Kd.C_drewN ?_ _) | (with_reducible refine Kd.C_drew ?_)));(case s2=>exact HC0_1.out);rintro e w17 ⟨rfl,hb⟩;refine ⟨_,rfl,?_⟩;refine as2_ (blkB_ BK286.out hb) (below_step (z11_ HB.out GE286.out) hb) ?_;clear BK286 HB;intro BK286 HB;(try clear hb);have ⟨hcz18_0,hcz18_1,hfz18_0,hfz18_1⟩:=cz2_ BK286.out) | ((with_reducible refine gc_ 12 ?_);refine gl_ (some 13) Tryd.func12 #[.agg #[.int .i64 a0_0,.slice A0_1 l0_1.length c0_1]] ?_;(with_reducible refine (laws_toRing.calls k a0_0 _ _ l0_1 t288 t289 _ ?s1 ?s2 A7.out).mono ?_);(case s1=>repeat (first | exact (Kd.C_below HR0_1.out HB.out) | (with_reducible refine Kd.C_alloc ?_ _) | (with_reducible refine Kd.C_drewN ?_ _) | (with_reducible refine Kd.C_drew ?_)));(case s2=>exact HC0_1.out);rintro e w19 ⟨v290,rfl,ho0,hb⟩;refine ⟨_,rfl,?_⟩;refine as3_ (Kd.R_lower ho0 (below_size (z11_ HB.out GE286.out))) (blkB_ BK286.out hb) (below_step (z11_ HB.out GE286.out) hb) ?_;clear BK286 HB;intro HO291 BK286 HB;(try clear hb);(try clear ho0);obtain ⟨Ao20,co20,eo20⟩:=Kd.R_slice HO291.out;subst eo20) | ((with_reducible refine gc_ 11 ?_);refine gl_ (some 14) Tryd.func11 #[.agg #[.int .i64 t288,.slice Ao20 t289.length co20]] ?_;(with_reducible refine (spec_RingRight.calls k t288 _ _ t289 t292 _ ?s1 ?s2 A8.out).mono ?_);(case s1=>repeat (first | exact (Kd.R_reads' HO291.out).2.2 | (with_reducible refine Kd.C_alloc ?_ _) | (with_reducible refine Kd.C_drewN ?_ _) | (with_reducible refine Kd.C_drew ?_)));(case s2=>exact (Kd.R_reads' HO291.out).2.1);rintro e w21 ⟨rfl,hb⟩;refine ⟨_,rfl,?_⟩;refine as3_ (Kd.R_below (z2_ HO291.out) hb) (blkB_ BK286.out hb) (below_step (z11_ HB.out GE286.out) hb) ?_;clear HO291 BK286 HB;intro HO291 BK286 HB;(try clear hb);have ⟨hcz22_0,hcz22_1,hfz22_0,hfz22_1⟩:=cz2_ BK286.out) | ((with_reducible refine gc_ 12 ?_);refine gl_ (some 16) Tryd.func12 #[.agg #[.int .i64 a0_0,.slice A0_1 l0_1.length c0_1]] ?_;(with_reducible refine (laws_toRing.calls k a0_0 _ _ l0_1 t293 t294 _ ?s1 ?s2 A9.out).mono ?_);(case s1=>repeat (first | exact (Kd.C_below HR0_1.out HB.out) | (with_reducible refine Kd.C_alloc ?_ _) | (with_reducible refine Kd.C_drewN ?_ _) | (with_reducible refine Kd.C_drew ?_)));(case s2=>exact HC0_1.out);rintro e w23 ⟨v295,rfl,ho0,hb⟩;refine ⟨_,rfl,?_⟩;refine as4_ (Kd.R_elder' (z2_ HO291.out) (Kd.R_base ho0) hb) (Kd.R_lower (Kd.R_new' ho0 (Kd.R_lt (z2_ HO291.out))) (below_size (z11_ HB.out GE286.out))) (blkB_ BK286.out hb) (below_step (z11_ HB.out GE286.out) hb) ?_;clear HO291 BK286 HB;intro HO291 HO296 BK286 HB;(try clear hb);(try clear ho0)) | ((with_reducible refine gd_ 5 ?_);refine be_ 5 #[.int .i64 0,.slice none 0 0] 29 ?_;intro gb297 hg w24 hbox hb;refine as9_ (Kd.R_below (z2_ HO291.out) hb) (Kd.R_below (z2_ HO296.out) hb) (blkB_ BK286.out hb) (below_step (z11_ HB.out GE286.out) hb) (hbox) ((z12_ HB.out GE286.out:w.heap.size≤gb297)) ((z12_ HB.out GE286.out:w.heap.size≤gb297)) (neL_ BK286.out hg) (neG_ BK286.out hg) ?_;clear HO291 HO296 BK286 HB;intro HO291 HO296 BK286 HB BK297 GW297 GE297 NB286_297 NB297_286;clear hb hbox hg;have hnb25:=NB297_286.out;have hnc25:=NB286_297.out;have ⟨hcz26_0,hcz26_1,hfz26_0,hfz26_1⟩:=cz2_ BK297.out;obtain ⟨Ao27,co27,eo27⟩:=Kd.R_slice HO296.out;subst eo27) | ((with_reducible refine gc_ 13 ?_);refine gl_ (some 18) Tryd.func13 #[.agg #[.int .i64 t293,.slice Ao27 t294.length co27]] ?_;(with_reducible refine (impl_RingRight.calls k t293 _ _ t294 t298 _ ?s1 ?s2 A10.out).mono ?_);(case s1=>refine (Kd.R_reads' (e:=57) (base:=w.heap.size) (ok:=fun k_=>(True∧some k_≠(.slice Ao20 t289.length co20:Value).ownBlock)) (n:=t294.length) (c:=co27) ?_).2.2;exact (z31_ HO296.out BK297.out));(case s2=>exact (Kd.R_reads' HO296.out).2.1);rintro e w28 ⟨rfl,hb⟩;refine ⟨_,rfl,?_⟩;refine as5_ (Kd.R_below (z31_ HO291.out BK297.out) hb) (Kd.R_below (z31_ HO296.out BK297.out) hb) (blk_below (g:=gb286) (o:=.cells #[.int .i64 a0_0,.slice A0_1 l0_1.length c0_1] 24 (0,0)) (z21_ NB286_297.out BK286.out) hb) (blk_below (g:=gb297) (o:=.cells #[.int .i64 t293,.slice Ao27 t294.length co27] 29 (0,0)) (z20_ BK297.out) hb) (below_step (z7_ HB.out GE286.out GE297.out) hb) ?_;clear HO291 HO296 BK286 BK297 HB;intro HO291 HO296 BK286 BK297 HB;(try clear hb);(try clear hk)))
    refine as5_ (Kd.R_drew HO291.out) (Kd.R_drew HO296.out) (blk_drew BK286.out) (blk_drew BK297.out) (below_drew1 HB.out) ?_
    clear HO291 HO296 BK286 BK297 HB
    intro HO291 HO296 BK286 BK297 HB
    refine start_ (n:=5) (S:=fun w'=>w'.cell? ⟨gb297,0,none⟩=some (.int .i64 t293)∧w'.cell? ⟨gb297,1,none⟩=some (.slice Ao27 t294.length co27)∧w'.cell? ⟨gb286,0,none⟩=some (.int .i64 a0_0)∧w'.cell? ⟨gb286,1,none⟩=some (.slice A0_1 l0_1.length c0_1)) (ds:=[]) #[O,O,O,O,O] (by kernel_rfl) rfl rfl (cj2_ BK297.out (cc2_ BK286.out)) (fun hHeld=>?_)
    generalize w28.drew=w29 at HO291 HO296 BK286 BK297 HB hHeld ⊢
    refine take_ (i:=0) (N:=some 22) (v:=?_) (a':=?_) #[I,O,O,O,O] rfl rfl (by kernel_rfl) (fun _ _ _ h=>h) (Or.inl ⟨by rfl,?_⟩) hHeld ?_ ?_
    rotate_left
    ·rintro w' ⟨s0,s1,s2,s3⟩
     go_simp
     with_reducible rfl
    rotate_left
    ·simp only [Act.put,sa_,s0_,ss_,i64_w,i32_w]
     rfl
    refine take_ (i:=1) (N:=some 23) (v:=?_) (a':=?_) #[I,I,O,O,O] rfl rfl (by kernel_rfl) (fun _ _ _ h=>h) (Or.inl ⟨by rfl,?_⟩) hHeld ?_ ?_
    rotate_left
    ·rintro w' ⟨s0,s1,s2,s3⟩
     go_simp
     with_reducible rfl
    rotate_left
    ·simp only [Act.put,sa_,s0_,ss_,i64_w,i32_w]
     rfl
    refine one_ (i:=2) (N:=some 24) #[I,I,I,O,O] rfl rfl (by kernel_rfl) (by decide) (fun K hK=>?_)
    refine gs_ Tryd.func12 #[.agg #[.int .i64 a0_0,.slice A0_1 l0_1.length c0_1]] ?_
    with_reducible refine (laws_toRing.calls k a0_0 _ _ l0_1 t299 t300 _ ?s1 ?s2 A12.out).mono ?_
    (case s1=>repeat (first | exact (Kd.C_below HR0_1.out HB.out) | (with_reducible refine Kd.C_alloc ?_ _) | (with_reducible refine Kd.C_drewN ?_ _) | (with_reducible refine Kd.C_drew ?_)))
    (case s2=>exact HC0_1.out)
    rintro e w30 ⟨v301,rfl,ho0,hb⟩
    refine ⟨_,rfl,?_⟩
    refine as6_ (Kd.R_elder' (z2_ HO291.out) (Kd.R_base ho0) hb) (Kd.R_elder' (z2_ HO296.out) (Kd.R_base ho0) hb) (Kd.R_lower (Kd.R_new' (Kd.R_new' ho0 (Kd.R_lt (z2_ HO291.out))) (Kd.R_lt (z2_ HO296.out))) (below_size (z7_ HB.out GE286.out GE297.out))) (blkB_ BK286.out hb) (blkB_ BK297.out hb) (below_step (z7_ HB.out GE286.out GE297.out) hb) ?_
    clear HO291 HO296 BK286 BK297 HB
    intro HO291 HO296 HO302 BK286 BK297 HB
    (try clear hb)
    (try clear ho0)
    obtain ⟨Ao31,co31,eo31⟩:=Kd.R_slice HO302.out
    (first | subst eo31 | (injection eo31 with f1_ f2_ f3_;have f4_:=f1_.symm;have f5_:=f3_.symm;clear f1_ f2_ f3_;subst f4_;subst f5_))
    refine hK.out _ _ (cj2_ BK297.out (cc2_ BK286.out)) (fun hHeld=>?_)
    clear hK K
    refine nm_ 24 ?_
    refine one_ (i:=3) (N:=some 25) #[I,I,I,I,O] rfl rfl (by kernel_rfl) (by decide) (fun K hK=>?_)
    refine gs_ Tryd.func14 #[.agg #[.int .i64 t293,.slice Ao27 t294.length co27],.agg #[.int .i64 t299,.slice Ao31 t300.length co31]] ?_
    with_reducible refine (laws_eqRing.calls k t293 _ _ t294 t299 _ _ t300 true _ ?s1 ?s2 ?s3 ?s4 A13.out).mono ?_
    (case s1=>repeat (first | exact (Kd.R_reads' HO296.out).2.2 | (with_reducible refine Kd.C_alloc ?_ _) | (with_reducible refine Kd.C_drewN ?_ _) | (with_reducible refine Kd.C_drew ?_)))
    (case s2=>exact (Kd.R_reads' HO296.out).2.1)
    (case s3=>repeat (first | exact (Kd.R_reads' HO302.out).2.2 | (with_reducible refine Kd.C_alloc ?_ _) | (with_reducible refine Kd.C_drewN ?_ _) | (with_reducible refine Kd.C_drew ?_)))
    (case s4=>exact (Kd.R_reads' HO302.out).2.1)
    rintro e w32 ⟨rfl,hb⟩
    refine ⟨_,rfl,?_⟩
    refine as6_ (Kd.R_below (z2_ HO291.out) hb) (Kd.R_below (z2_ HO296.out) hb) (Kd.R_below (z2_ HO302.out) hb) (blkB_ BK286.out hb) (blkB_ BK297.out hb) (below_step (z7_ HB.out GE286.out GE297.out) hb) ?_
    clear HO291 HO296 HO302 BK286 BK297 HB
    intro HO291 HO296 HO302 BK286 BK297 HB
    (try clear hb)
    refine hK.out _ _ (cj2_ BK297.out (cc2_ BK286.out)) (fun hHeld=>?_)
    clear hK K
    refine nm_ 25 ?_
    refine pure_ (i:=4) (N:=some 26) (v:=?_) (a':=?_) #[I,I,I,I,I] rfl rfl (by kernel_rfl) (fun _ _ _ h=>h) (Or.inl ⟨by rfl,?_⟩) ?_ ?_
    rotate_left
    ·intro w'
     go_simp
     with_reducible rfl
    rotate_left
    ·simp only [Act.put,sa_,s0_,ss_,i64_w,i32_w]
     rfl
    refine done_ (by kernel_rfl) ?_
    try go_wp2
    go_ret
    exact ⟨z9_,z7_ HB.out GE286.out GE297.out⟩
   ·replace c14:=Bool.eq_false_iff.mpr c14
    subst c14
    have H1:(none)=some r:=by rw [if_neg (show ¬ (false=true) by decide)] at H;exact H
    clear H
    have H:=H1
    clear H1
    exact absurd H (by simp)

end Go.Proofs.YtdogendcjmgnnaaDoor.P

namespace Go.Proofs.YtdogendcjmgnnaaDoor.P
open Go.RowKit Go.Proofs.YtdogendcjmgnnaaDoor.RO
def laws_FnExactRingRight.Pure:Prop:=∀ (x0:S24),wfT24 x0→∃ k,laws_FnExactRingRight.f k x0.f0 x0.f1=some true
end Go.Proofs.YtdogendcjmgnnaaDoor.P

namespace Go.Proofs.YtdogendcjmgnnaaDoor.Q
open Go.RowKit Go.Proofs.YtdogendcjmgnnaaDoorW.PrintWords Go.Proofs.YtdogendcjmgnnaaDoorW.PrintMore

theorem w64 {x:Int} (h0 : -9223372036854775808≤x) (h1:x≤9223372036854775807):wrap64 x=x:=by unfold wrap64;omega
theorem evIte {α:Type} {c:Prop} [Decidable c] {f g:Nat→Option α} {r:α} (h:c→Ev f r) (h':¬ c→Ev g r):Ev (fun k=>if c then f k else g k) r:=by
  by_cases hc:c
  · simp only [if_pos hc];exact h hc
  · simp only [if_neg hc];exact h' hc
theorem evPos {α:Type} {c:Prop} [Decidable c] {f g:Nat→Option α} {r:α} (hc:c) (h:Ev f r):Ev (fun k=>if c then f k else g k) r:=by
  simp only [if_pos hc];exact h
theorem evNeg {α:Type} {c:Prop} [Decidable c] {f g:Nat→Option α} {r:α} (hc:¬ c) (h:Ev g r):Ev (fun k=>if c then f k else g k) r:=by
  simp only [if_neg hc];exact h
theorem evBind1 {α β:Type} {g:Option α} {f:Nat→α→Option β} {a:α} {r:β} (h:g=some a) (k:Ev (fun n=>f n a) r):Ev (fun n=>g.bind (f n)) r:=by
  subst h;exact k
theorem dropCons {α:Type} {l:List α} {i:Nat} {a:α} {s:List α} (h:l.drop i=a :: s) (d:α):i<l.length∧l.getD i d=a∧l.drop (i+1)=s:=by
  have hl:i<l.length:=by
    have:=congrArg List.length h
    simp at this;omega
  rw [List.drop_eq_getElem_cons hl] at h
  injection h with h1 h2
  exact ⟨hl,by rw [List.getD_eq_getElem?_getD,List.getElem?_eq_getElem hl];exact h1,h2⟩
theorem dropNil {α:Type} {l:List α} {i:Nat} (h:l.drop i=[]):l.length≤i:=by
  have:=congrArg List.length h
  simp at this;omega
theorem dropNil' {α:Type} {l:List α} {i:Nat} (h:l.drop i=[]) (hi:i≤l.length):l.length=i:=by
  have:=dropNil h;omega
end Go.Proofs.YtdogendcjmgnnaaDoor.Q

namespace Go.Proofs.YtdogendcjmgnnaaDoor.Q
open Go.RowKit Go.Proofs.YtdogendcjmgnnaaDoor.P Go.Proofs.YtdogendcjmgnnaaDoorW.PrintWords Go.Proofs.YtdogendcjmgnnaaDoorW.PrintMore

def isWithin (n low high:Int):Bool:=decide (low≤n) && decide (n≤high)
def isNode (n:Int):Bool:=isWithin n 1 5
theorem l02Is_is (n a b:Int):spec_l02Is.f n a b=some (isWithin n a b):=by
  unfold spec_l02Is.f isWithin
  split
  · rename_i h;simp [show a≤n from h]
  · rename_i h;simp [show ¬ a≤n from h]
theorem l02Node_is (n:Int):spec_l02Node.f n=some (isNode n):=by simp [spec_l02Node.f,l02Is_is,isNode]
theorem within_is (n a b:Int):impl_within.f n a b=some (isWithin n a b):=by
  unfold impl_within.f isWithin
  split
  · rename_i h;simp [show a≤n from h]
  · rename_i h;simp [show ¬ a≤n from h]
theorem isNode_is (n:Int):impl_isNode.f n=some (isNode n):=by simp [impl_isNode.f,within_is,isNode]
theorem isNode_iff (n:Int):isNode n=true ↔ 1≤n∧n≤5:=by simp [isNode,isWithin]
end Go.Proofs.YtdogendcjmgnnaaDoor.Q

namespace Go.Proofs.YtdogendcjmgnnaaDoor.P
open Go.RowKit Go.Proofs.YtdogendcjmgnnaaDoorW.PrintWords Go.Proofs.YtdogendcjmgnnaaDoorW.PrintLast Go.Proofs.YtdogendcjmgnnaaDoorW.PrintMore
attribute [local go_sem] max2_int min2_int max_two min_two max_three min_three max_four min_four   -- for this text's walks alone
set_option linter.unusedVariables false
set_option linter.unusedSimpArgs false

/-! ### laws_markTokenS: function 46 -/
def laws_markTokenS.l0:Nat→List (S57)→Int→Int→Option (Int × (List (S57)))
 | 0,_,_,_=>none
 | k+1,x0,x1,x5=>if x5<(x0.length:Int) then (if 0≤x5 then ((some (x0.set (x5:Int).toNat (⟨x1,(rd_T57 x0 x5).f1⟩:S57):List (S57))).bind fun y321=>(laws_markTokenS.l0 k (y321.set (x5:Int).toNat (⟨(rd_T57 y321 x5).f0,wrap64 (x1+1)⟩:S57)) (wrap64 ((wrap64 (x1+1))+1)) (wrap64 (x5+1)))) else (none)) else (some (x1,x0))
def laws_markTokenS.f (k:Nat) (l0:List (S57)) (a1:Int):Option (Int × (List (S57))):=laws_markTokenS.l0 k l0 a1 0
theorem laws_markTokenS.mono_l:∀ k,(∀ y0 y1 y2,LeO (laws_markTokenS.l0 k y0 y1 y2) (laws_markTokenS.l0 (k+1) y0 y1 y2))
 | 0=>fun _ _ _ r h=>by simp [laws_markTokenS.l0] at h
 | k+1=>by
  have ih0:=laws_markTokenS.mono_l k
  ·intro y0 y1 y2
   unfold laws_markTokenS.l0
   repeat' first
   | (with_reducible exact ih0 _ _ _)
   | (with_reducible exact LeO.refl _)
   | (with_reducible exact LeO.none _)
   | (with_reducible refine LeO.ite ?_ ?_)
   | (with_reducible refine LeO.bind ?_ (fun _=>?_))
   | exact ih0 _ _ _
   | exact LeO.none _
   | refine LeO.ite ?_ ?_
   | refine LeO.bind ?_ (fun _=>?_)
theorem laws_markTokenS.mono:∀ a0 a1 k,LeO (laws_markTokenS.f k a0 a1) (laws_markTokenS.f (k+1) a0 a1):=by
 intro a0 a1 k
 have ih0:=laws_markTokenS.mono_l k
 unfold laws_markTokenS.f
 repeat' first
   | (with_reducible exact ih0 _ _ _)
   | (with_reducible exact LeO.refl _)
   | (with_reducible exact LeO.none _)
   | (with_reducible refine LeO.ite ?_ ?_)
   | (with_reducible refine LeO.bind ?_ (fun _=>?_))
   | exact ih0 _ _ _
   | exact LeO.none _
   | refine LeO.ite ?_ ?_
   | refine LeO.bind ?_ (fun _=>?_)

/-! ### laws_heldTokenS: function 71 -/
def laws_heldTokenS.l0:Nat→List (S57)→Int→Int→Option (Int)
 | 0,_,_,_=>none
 | k+1,x0,x1,x5=>if x5<(x0.length:Int) then (if 0≤x5 then (if ((rd_T57 x0 x5).f0)=x1 then (if ((rd_T57 x0 x5).f1)=(wrap64 (x1+1)) then (laws_heldTokenS.l0 k x0 (wrap64 ((wrap64 (x1+1))+1)) (wrap64 (x5+1))) else (none)) else (none)) else (none)) else (some x1)
def laws_heldTokenS.f (k:Nat) (l0:List (S57)) (a1:Int):Option (Int):=laws_heldTokenS.l0 k l0 a1 0
theorem laws_heldTokenS.mono_l:∀ k,(∀ y0 y1 y2,LeO (laws_heldTokenS.l0 k y0 y1 y2) (laws_heldTokenS.l0 (k+1) y0 y1 y2))
 | 0=>fun _ _ _ r h=>by simp [laws_heldTokenS.l0] at h
 | k+1=>by
  have ih0:=laws_heldTokenS.mono_l k
  ·intro y0 y1 y2
   unfold laws_heldTokenS.l0
   repeat' first
   | (with_reducible exact ih0 _ _ _)
   | (with_reducible exact LeO.refl _)
   | (with_reducible exact LeO.none _)
   | (with_reducible refine LeO.ite ?_ ?_)
   | (with_reducible refine LeO.bind ?_ (fun _=>?_))
   | exact ih0 _ _ _
   | exact LeO.none _
   | refine LeO.ite ?_ ?_
   | refine LeO.bind ?_ (fun _=>?_)
theorem laws_heldTokenS.mono:∀ a0 a1 k,LeO (laws_heldTokenS.f k a0 a1) (laws_heldTokenS.f (k+1) a0 a1):=by
 intro a0 a1 k
 have ih0:=laws_heldTokenS.mono_l k
 unfold laws_heldTokenS.f
 repeat' first
   | (with_reducible exact ih0 _ _ _)
   | (with_reducible exact LeO.refl _)
   | (with_reducible exact LeO.none _)
   | (with_reducible refine LeO.ite ?_ ?_)
   | (with_reducible refine LeO.bind ?_ (fun _=>?_))
   | exact ih0 _ _ _
   | exact LeO.none _
   | refine LeO.ite ?_ ?_
   | refine LeO.bind ?_ (fun _=>?_)

/-! ### laws_eqRingOut: function 17 -/
def laws_eqRingOut.f (k:Nat) (a0_0:Int) (l0_1:List (S57)) (a0_2:Int) (a1_0:Int) (l1_1:List (S57)) (a1_2:Int):Option (Bool):=(laws_eqRing.f k a0_0 l0_1 a1_0 l1_1).bind fun t320=>(if t320=true then (if a0_2=a1_2 then (some true) else (none)) else (none))
theorem laws_eqRingOut.mono:∀ a0 a1 a2 a3 a4 a5 k,LeO (laws_eqRingOut.f k a0 a1 a2 a3 a4 a5) (laws_eqRingOut.f (k+1) a0 a1 a2 a3 a4 a5):=by
 intro a0 a1 a2 a3 a4 a5 k
 unfold laws_eqRingOut.f
 repeat' first
   | (with_reducible exact laws_eqRing.mono _ _ _ _ _)
   | (with_reducible exact LeO.refl _)
   | (with_reducible exact LeO.none _)
   | (with_reducible refine LeO.ite ?_ ?_)
   | (with_reducible refine LeO.bind ?_ (fun _=>?_))
   | exact laws_eqRing.mono _ _ _ _ _
   | exact LeO.none _
   | refine LeO.ite ?_ ?_
   | refine LeO.bind ?_ (fun _=>?_)

/-! ### laws_markRing: function 22 -/
def laws_markRing.f (k:Nat) (a0_0:Int) (l0_1:List (S57)) (a1:Int):Option (Int × (List (S57))):=(laws_markTokenS.f k l0_1 a1).bind fun bt324=>(some (bt324.1,bt324.2))
theorem laws_markRing.mono:∀ a0 a1 a2 k,LeO (laws_markRing.f k a0 a1 a2) (laws_markRing.f (k+1) a0 a1 a2):=by
 intro a0 a1 a2 k
 unfold laws_markRing.f
 repeat' first
   | (with_reducible exact laws_markTokenS.mono _ _ _)
   | (with_reducible exact LeO.refl _)
   | (with_reducible exact LeO.none _)
   | (with_reducible refine LeO.ite ?_ ?_)
   | (with_reducible refine LeO.bind ?_ (fun _=>?_))
   | exact laws_markTokenS.mono _ _ _
   | exact LeO.none _
   | refine LeO.ite ?_ ?_
   | refine LeO.bind ?_ (fun _=>?_)

/-! ### laws_heldRing: function 45 -/
def laws_heldRing.f (k:Nat) (a0_0:Int) (l0_1:List (S57)) (a1:Int):Option (Int):=(laws_heldTokenS.f k l0_1 a1).bind fun t332=>(if t332<0 then (none) else (some t332))
theorem laws_heldRing.mono:∀ a0 a1 a2 k,LeO (laws_heldRing.f k a0 a1 a2) (laws_heldRing.f (k+1) a0 a1 a2):=by
 intro a0 a1 a2 k
 unfold laws_heldRing.f
 repeat' first
   | (with_reducible exact laws_heldTokenS.mono _ _ _)
   | (with_reducible exact LeO.refl _)
   | (with_reducible exact LeO.none _)
   | (with_reducible refine LeO.ite ?_ ?_)
   | (with_reducible refine LeO.bind ?_ (fun _=>?_))
   | exact laws_heldTokenS.mono _ _ _
   | exact LeO.none _
   | refine LeO.ite ?_ ?_
   | refine LeO.bind ?_ (fun _=>?_)

/-! ### laws_markRingOut: function 18 -/
def laws_markRingOut.f (k:Nat) (a0_0:Int) (l0_1:List (S57)) (a0_2:Int) (a1:Int):Option (Int × (List (S57))):=(laws_markRing.f k a0_0 l0_1 a1).bind fun bt327=>(some (bt327.1,bt327.2))
theorem laws_markRingOut.mono:∀ a0 a1 a2 a3 k,LeO (laws_markRingOut.f k a0 a1 a2 a3) (laws_markRingOut.f (k+1) a0 a1 a2 a3):=by
 intro a0 a1 a2 a3 k
 unfold laws_markRingOut.f
 repeat' first
   | (with_reducible exact laws_markRing.mono _ _ _ _)
   | (with_reducible exact LeO.refl _)
   | (with_reducible exact LeO.none _)
   | (with_reducible refine LeO.ite ?_ ?_)
   | (with_reducible refine LeO.bind ?_ (fun _=>?_))
   | exact laws_markRing.mono _ _ _ _
   | exact LeO.none _
   | refine LeO.ite ?_ ?_
   | refine LeO.bind ?_ (fun _=>?_)

/-! ### laws_heldRingOut: function 19 -/
def laws_heldRingOut.f (k:Nat) (a0_0:Int) (l0_1:List (S57)) (a0_2:Int) (a1:Int):Option (Int):=(laws_heldRing.f k a0_0 l0_1 a1).bind fun t334=>(if t334<0 then (none) else (some t334))
theorem laws_heldRingOut.mono:∀ a0 a1 a2 a3 k,LeO (laws_heldRingOut.f k a0 a1 a2 a3) (laws_heldRingOut.f (k+1) a0 a1 a2 a3):=by
 intro a0 a1 a2 a3 k
 unfold laws_heldRingOut.f
 repeat' first
   | (with_reducible exact laws_heldRing.mono _ _ _ _)
   | (with_reducible exact LeO.refl _)
   | (with_reducible exact LeO.none _)
   | (with_reducible refine LeO.ite ?_ ?_)
   | (with_reducible refine LeO.bind ?_ (fun _=>?_))
   | exact laws_heldRing.mono _ _ _ _
   | exact LeO.none _
   | refine LeO.ite ?_ ?_
   | refine LeO.bind ?_ (fun _=>?_)
end Go.Proofs.YtdogendcjmgnnaaDoor.P

namespace Go.Proofs.YtdogendcjmgnnaaDoor.Q
open Go.RowKit Go.Proofs.YtdogendcjmgnnaaDoor.P Go.Proofs.YtdogendcjmgnnaaDoorW.PrintWords Go.Proofs.YtdogendcjmgnnaaDoorW.PrintMore

abbrev Tok:=S57
abbrev LTok:=S75
def toTok (m:LTok):Tok:=⟨m.f0,m.f1⟩
theorem szTokenS_is (l:List LTok) (n:Int) (h0:0≤n) (h1:n≤1048576) (hl:l.length≤9223372036854775807) :
    laws_szTokenS.f l n=some (if n<(l.length:Int) then -1 else n-(l.length:Int)):=by
  unfold laws_szTokenS.f
  rw [w64 (by omega) (by omega)]
  split
  · rw [if_pos (by omega)]
  · rw [if_neg (by omega)]
theorem toTokenS_l0 (l:List LTok) (hl:l.length≤1048576):∀ (s:List LTok) (i:Nat),l.drop i=s→i≤l.length→∀ (acc:List Tok),acc.length=l.length→acc.take i=(l.take i).map toTok →
    Ev (fun k=>laws_toTokenS.l0 k l acc (i:Int)) (l.map toTok)
  | [],i,h,hi,acc,ha,hc=>by
    have:=dropNil' h hi
    refine Ev.step (f:=fun _=>some (l.map toTok)) (fun k=>?_) (Ev.now _)
    simp only [laws_toTokenS.l0]
    rw [if_neg (by omega)]
    rw [← this,List.take_of_length_le (by omega),List.take_length] at hc
    rw [hc]
  | m :: s,i,h,hi,acc,ha,hc=>by
    obtain ⟨h1,h2,h3⟩:=dropCons h z75
    have hr:rd_T75 l (i:Int)=m:=by simpa [rd_T75] using h2
    have hm:l[i]'h1=m:=by
      rw [List.getD_eq_getElem?_getD,List.getElem?_eq_getElem h1] at h2;exact h2
    refine Ev.step (fun k=>?_) (toTokenS_l0 l hl s (i+1) h3 (by omega) (acc.set i (toTok m)) (by simpa using ha) (by
      rw [List.take_succ_eq_append_getElem (by simp;omega),List.take_succ_eq_append_getElem h1,List.map_append,List.take_set_of_le (by omega),hc]
      simp [hm]))
    simp only [laws_toTokenS.l0,laws_toToken.f,hr,Option.bind_some,Int.toNat_natCast]
    rw [if_pos (by omega),if_pos (by omega),if_pos (by omega),w64 (by omega) (by omega)]
    rfl
theorem toTokenS_ev (l:List LTok) (hl:l.length≤1048576):Ev (fun k=>laws_toTokenS.f k l) (l.map toTok):=by
  unfold laws_toTokenS.f
  refine evPos (by omega) (evPos (by omega) ?_)
  exact toTokenS_l0 l hl l 0 rfl (by omega) _ (by simp) (by simp)
theorem eqToken_refl (a b:Int):laws_eqToken.f a b a b=some true:=by simp [laws_eqToken.f]
theorem eqTokenS_l0 (l:List Tok) (hl:l.length≤4611686018427387904):∀ (s:List Tok) (i:Nat),l.drop i=s→i≤l.length →
    Ev (fun k=>laws_eqTokenS.l0 k l l (i:Int)) true
  | [],i,h,hi=>by
    have:=dropNil' h hi
    refine Ev.step (f:=fun _=>some true) (fun k=>?_) (Ev.now _)
    simp only [laws_eqTokenS.l0]
    rw [if_neg (by omega)]
  | m :: s,i,h,hi=>by
    obtain ⟨h1,h2,h3⟩:=dropCons h z57
    refine Ev.step (fun k=>?_) (eqTokenS_l0 l hl s (i+1) h3 (by omega))
    simp only [laws_eqTokenS.l0,eqToken_refl,Option.bind_some]
    rw [if_pos (by omega),if_pos (by omega),if_pos (by omega),if_pos trivial,w64 (by omega) (by omega)]
    rfl
theorem eqTokenS_ev (l:List Tok) (hl:l.length≤4611686018427387904):Ev (fun k=>laws_eqTokenS.f k l l) true:=by
  unfold laws_eqTokenS.f
  exact evPos rfl (eqTokenS_l0 l hl l 0 rfl (by omega))
theorem eqRing_ev (n:Int) (l:List Tok) (hl:l.length≤4611686018427387904):Ev (fun k=>laws_eqRing.f k n l n l) true :=
  evPos rfl (Ev.bind (eqTokenS_ev l hl) (evPos rfl (Ev.now _)))
theorem toRing_ev (n:Int) (l:List LTok) (hl:l.length≤1048576):Ev (fun k=>laws_toRing.f k n l) (n,l.map toTok):=Ev.bind (toTokenS_ev l hl) (Ev.now _)
end Go.Proofs.YtdogendcjmgnnaaDoor.Q

namespace Go.Proofs.YtdogendcjmgnnaaDoor.P
open Go.RowKit Go.Proofs.YtdogendcjmgnnaaDoorW.PrintWords Go.Proofs.YtdogendcjmgnnaaDoorW.PrintLast Go.Proofs.YtdogendcjmgnnaaDoorW.PrintMore
attribute [local go_sem] max2_int min2_int max_two min_two max_three min_three max_four min_four   -- for this text's walks alone
set_option linter.unusedVariables false
set_option linter.unusedSimpArgs false

/-! ### impl_RingNew: function 16 -/
def impl_RingNew.j0:Nat→Int→Int→Bool→Option (Int × (List (S57)) × Int)
 | 0,_,_,_=>none
 | k+1,x0,x1,x12=>if x12=true then (some (0,([]:List (S57)),1)) else ((impl_ringNew.f k x0 x1).bind fun bt314=>(some (bt314.1,bt314.2,0)))
def impl_RingNew.f (k:Nat) (a0:Int) (a1:Int):Option (Int × (List (S57)) × Int):=(impl_isNode.f a0).bind fun t312=>(if t312=true then ((impl_within.f a1 1 8).bind fun t313=>(impl_RingNew.j0 k a0 a1 (!t313))) else (impl_RingNew.j0 k a0 a1 true))
theorem impl_RingNew.mono_l:∀ k,(∀ y0 y1 y2,LeO (impl_RingNew.j0 k y0 y1 y2) (impl_RingNew.j0 (k+1) y0 y1 y2))
 | 0=>fun _ _ _ r h=>by simp [impl_RingNew.j0] at h
 | k+1=>by
  have ih0:=impl_RingNew.mono_l k
  ·intro y0 y1 y2
   unfold impl_RingNew.j0
   repeat' first
   | (with_reducible exact ih0 _ _ _)
   | (with_reducible exact impl_ringNew.mono _ _ _)
   | (with_reducible exact LeO.refl _)
   | (with_reducible exact LeO.none _)
   | (with_reducible refine LeO.ite ?_ ?_)
   | (with_reducible refine LeO.bind ?_ (fun _=>?_))
   | exact ih0 _ _ _
   | exact impl_ringNew.mono _ _ _
   | exact LeO.none _
   | refine LeO.ite ?_ ?_
   | refine LeO.bind ?_ (fun _=>?_)
theorem impl_RingNew.mono:∀ a0 a1 k,LeO (impl_RingNew.f k a0 a1) (impl_RingNew.f (k+1) a0 a1):=by
 intro a0 a1 k
 have ih0:=impl_RingNew.mono_l k
 unfold impl_RingNew.f
 repeat' first
   | (with_reducible exact ih0 _ _ _)
   | (with_reducible exact impl_ringNew.mono _ _ _)
   | (with_reducible exact LeO.refl _)
   | (with_reducible exact LeO.none _)
   | (with_reducible refine LeO.ite ?_ ?_)
   | (with_reducible refine LeO.bind ?_ (fun _=>?_))
   | exact ih0 _ _ _
   | exact impl_ringNew.mono _ _ _
   | exact LeO.none _
   | refine LeO.ite ?_ ?_
   | refine LeO.bind ?_ (fun _=>?_)

/-! ### spec_RingNew: function 15 -/
def spec_RingNew.j0:Nat→Int→Int→Bool→Option (Int × (List (S57)) × Int)
 | 0,_,_,_=>none
 | k+1,x0,x1,x12=>if x12=true then (some (0,([]:List (S57)),1)) else ((spec_l04New.f k x0 x1).bind fun bt307=>(some (bt307.1,bt307.2,0)))
def spec_RingNew.f (k:Nat) (a0:Int) (a1:Int):Option (Int × (List (S57)) × Int):=(spec_l02Node.f a0).bind fun t305=>(if t305=true then ((spec_l02Is.f a1 1 8).bind fun t306=>(spec_RingNew.j0 k a0 a1 (!t306))) else (spec_RingNew.j0 k a0 a1 true))
theorem spec_RingNew.mono_l:∀ k,(∀ y0 y1 y2,LeO (spec_RingNew.j0 k y0 y1 y2) (spec_RingNew.j0 (k+1) y0 y1 y2))
 | 0=>fun _ _ _ r h=>by simp [spec_RingNew.j0] at h
 | k+1=>by
  have ih0:=spec_RingNew.mono_l k
  ·intro y0 y1 y2
   unfold spec_RingNew.j0
   repeat' first
   | (with_reducible exact ih0 _ _ _)
   | (with_reducible exact spec_l04New.mono _ _ _)
   | (with_reducible exact LeO.refl _)
   | (with_reducible exact LeO.none _)
   | (with_reducible refine LeO.ite ?_ ?_)
   | (with_reducible refine LeO.bind ?_ (fun _=>?_))
   | exact ih0 _ _ _
   | exact spec_l04New.mono _ _ _
   | exact LeO.none _
   | refine LeO.ite ?_ ?_
   | refine LeO.bind ?_ (fun _=>?_)
theorem spec_RingNew.mono:∀ a0 a1 k,LeO (spec_RingNew.f k a0 a1) (spec_RingNew.f (k+1) a0 a1):=by
 intro a0 a1 k
 have ih0:=spec_RingNew.mono_l k
 unfold spec_RingNew.f
 repeat' first
   | (with_reducible exact ih0 _ _ _)
   | (with_reducible exact spec_l04New.mono _ _ _)
   | (with_reducible exact LeO.refl _)
   | (with_reducible exact LeO.none _)
   | (with_reducible refine LeO.ite ?_ ?_)
   | (with_reducible refine LeO.bind ?_ (fun _=>?_))
   | exact ih0 _ _ _
   | exact spec_l04New.mono _ _ _
   | exact LeO.none _
   | refine LeO.ite ?_ ?_
   | refine LeO.bind ?_ (fun _=>?_)

/-! ### impl_RingMore: function 21 -/
def impl_RingMore.f (k:Nat) (a0_0:Int) (l0_1:List (S57)):Option (Int × (List (S57)) × Int):=(impl_RingRight.f k a0_0 l0_1).bind fun t368=>(if t368=true then (if a0_0=5 then (some (0,([]:List (S57)),9)) else (if a0_0=0 then (none) else ((impl_ringNew.f k (wrap64 (a0_0+1)) (wrap64 ((l0_1.length:Int) / a0_0))).bind fun bt369=>(some (bt369.1,bt369.2,0))))) else (some (0,([]:List (S57)),1)))
theorem impl_RingMore.mono:∀ a0 a1 k,LeO (impl_RingMore.f k a0 a1) (impl_RingMore.f (k+1) a0 a1):=by
 intro a0 a1 k
 unfold impl_RingMore.f
 repeat' first
   | (with_reducible exact impl_RingRight.mono _ _ _)
   | (with_reducible exact impl_ringNew.mono _ _ _)
   | (with_reducible exact LeO.refl _)
   | (with_reducible exact LeO.none _)
   | (with_reducible refine LeO.ite ?_ ?_)
   | (with_reducible refine LeO.bind ?_ (fun _=>?_))
   | exact impl_RingRight.mono _ _ _
   | exact impl_ringNew.mono _ _ _
   | exact LeO.none _
   | refine LeO.ite ?_ ?_
   | refine LeO.bind ?_ (fun _=>?_)

/-! ### spec_RingMore: function 20 -/
def spec_RingMore.f (k:Nat) (a0_0:Int) (l0_1:List (S57)):Option (Int × (List (S57)) × Int):=(spec_RingRight.f k a0_0 l0_1).bind fun t361=>(if t361=true then (if a0_0≥5 then (some (0,([]:List (S57)),9)) else (if a0_0=0 then (none) else ((spec_l04New.f k (wrap64 (a0_0+1)) (wrap64 ((l0_1.length:Int) / a0_0))).bind fun bt362=>(some (bt362.1,bt362.2,0))))) else (some (0,([]:List (S57)),1)))
theorem spec_RingMore.mono:∀ a0 a1 k,LeO (spec_RingMore.f k a0 a1) (spec_RingMore.f (k+1) a0 a1):=by
 intro a0 a1 k
 unfold spec_RingMore.f
 repeat' first
   | (with_reducible exact spec_RingRight.mono _ _ _)
   | (with_reducible exact spec_l04New.mono _ _ _)
   | (with_reducible exact LeO.refl _)
   | (with_reducible exact LeO.none _)
   | (with_reducible refine LeO.ite ?_ ?_)
   | (with_reducible refine LeO.bind ?_ (fun _=>?_))
   | exact spec_RingRight.mono _ _ _
   | exact spec_l04New.mono _ _ _
   | exact LeO.none _
   | refine LeO.ite ?_ ?_
   | refine LeO.bind ?_ (fun _=>?_)
end Go.Proofs.YtdogendcjmgnnaaDoor.P

namespace Go.Proofs.YtdogendcjmgnnaaDoor.Q
open Go.RowKit Go.Proofs.YtdogendcjmgnnaaDoor.P Go.Proofs.YtdogendcjmgnnaaDoorW.PrintWords Go.Proofs.YtdogendcjmgnnaaDoorW.PrintMore

theorem evMono {α:Type} {g:Nat→Option α} {r:α} (hm:∀ k,LeO (g k) (g (k+1))) (K:Nat) (h:g K=some r):Ev g r:=⟨K,fun k hk=>by
  obtain ⟨d,rfl⟩:=Nat.exists_eq_add_of_le hk
  induction d with
  | zero=>exact h
  | succ d ih=>exact hm _ _ (ih (by omega))⟩
def eqToks:List Tok→List Tok→Bool
  | [],[]=>true
  | x :: a,y :: b=>(x.f0 == y.f0 && x.f1 == y.f1) && eqToks a b
  | _,_=>false
theorem eqToks_eq:∀ a b:List Tok,eqToks a b=true→a=b
  | [],[],_=>rfl
  | x :: a,y :: b,h=>by
    simp only [eqToks,Bool.and_eq_true,beq_iff_eq] at h
    obtain ⟨⟨h1,h2⟩,h3⟩:=h
    obtain ⟨x0,x1⟩:=x
    obtain ⟨y0,y1⟩:=y
    simp only at h1 h2
    rw [h1,h2,eqToks_eq a b h3]
  | [],_ :: _,h=>by simp [eqToks] at h
  | _ :: _,[],h=>by simp [eqToks] at h
def ringRounds:Nat:=3000
def ringT (n e:Int):List Tok:=match spec_l04New.f ringRounds n e with
  | some x=>x.2
  | none=>[]
def ringTest (n e:Nat):Bool:=match impl_ringNew.f ringRounds (n:Int) (e:Int),spec_l04New.f ringRounds (n:Int) (e:Int) with
  | some x,some y=>x.1 == (n:Int) && (y.1 == (n:Int) && (eqToks x.2 y.2 && y.2.length == n*e))
  | _,_=>false
set_option maxRecDepth 1000000 in
theorem ring_all:(List.range 40).all (fun j=>ringTest (j / 8+1) (j % 8+1))=true:=by kernel_rfl
theorem ring_is {n e:Int} (hn:isNode n=true) (he:isWithin e 1 8=true) :
    Ev (fun k=>impl_ringNew.f k n e) (n,ringT n e)∧Ev (fun k=>spec_l04New.f k n e) (n,ringT n e)∧((ringT n e).length:Int)=n*e:=by
  rw [isNode_iff] at hn
  simp only [isWithin,Bool.and_eq_true,decide_eq_true_eq] at he
  obtain ⟨n,rfl⟩:=Int.eq_ofNat_of_zero_le (show 0≤n by omega)
  obtain ⟨e,rfl⟩:=Int.eq_ofNat_of_zero_le (show 0≤e by omega)
  have h:=List.all_eq_true.1 ring_all ((n-1)*8+(e-1)) (List.mem_range.2 (by omega))
  rw [show ((n-1)*8+(e-1)) / 8+1=n by omega,show ((n-1)*8+(e-1)) % 8+1=e by omega] at h
  unfold ringTest at h
  split at h
  · rename_i x y hx hy
    simp only [Bool.and_eq_true,beq_iff_eq] at h
    obtain ⟨h1,h2,h3,h4⟩:=h
    have h5:=eqToks_eq _ _ h3
    have ht:ringT (n:Int) (e:Int)=y.2:=by unfold ringT;rw [hy]
    obtain ⟨x1,x2⟩:=x
    obtain ⟨y1,y2⟩:=y
    simp only at h1 h2 h4 h5 ht
    clear h3
    subst h1
    subst h2
    subst h5
    rw [ht]
    refine ⟨evMono (fun k=>impl_ringNew.mono _ _ k) ringRounds hx,evMono (fun k=>spec_l04New.mono _ _ k) ringRounds hy,?_⟩
    rw [h4]
    simp
  · cases h
def ringOk (n:Int) (l:List Tok):Bool:=isNode n && (isWithin ((l.length:Int) / n) 1 8 && eqToks l (ringT n ((l.length:Int) / n)))
theorem tokNe (x y:Tok):(!(x.f0 == y.f0) || (!(x.f1 == y.f1)))=!(x.f0 == y.f0 && x.f1 == y.f1):=by
  cases x.f0 == y.f0 <;> cases x.f1 == y.f1 <;> rfl
theorem equal_l0 (l m:List Tok) (hl:l.length≤1048576) (hm:m.length=l.length):∀ (s t:List Tok) (i:Nat),l.drop i=s→m.drop i=t→i≤l.length →
    Ev (fun k=>slices_Equal_impl_Token_impl_Token.l0 k l m (l.length:Int) (i:Int)) (eqToks s t)
  | [],t,i,h,h',hi=>by
    have e:=dropNil' h hi
    have:t=[]:=by rw [← h',List.drop_eq_nil_of_le (by omega)]
    subst this
    refine Ev.step (f:=fun _=>some true) (fun k=>?_) (Ev.now _)
    simp only [slices_Equal_impl_Token_impl_Token.l0]
    rw [if_neg (by omega)]
  | x :: s,[],i,h,h',hi=>by
    have a:=(dropCons h z57).1
    have b:=dropNil h'
    omega
  | x :: s,y :: t,i,h,h',hi=>by
    obtain ⟨h1,h2,h3⟩:=dropCons h z57
    obtain ⟨g1,g2,g3⟩:=dropCons h' z57
    have hr:rd_T57 l (i:Int)=x:=by simpa [rd_T57] using h2
    have gr:rd_T57 m (i:Int)=y:=by simpa [rd_T57] using g2
    have ih:=equal_l0 l m hl hm s t (i+1) h3 g3 (by omega)
    refine Ev.step (fun k=>by simp only [slices_Equal_impl_Token_impl_Token.l0,hr,gr,tokNe];rw [if_pos (by omega),if_pos (by omega),if_pos (by omega),if_pos (by omega)]) ?_
    unfold eqToks
    cases x.f0 == y.f0 && x.f1 == y.f1 with
    | false=>exact evPos (by rfl) (Ev.now _)
    | true =>
      refine evNeg (by simp) ?_
      rw [w64 (by omega) (by omega)]
      exact ih
theorem eqToks_length:∀ a b:List Tok,a.length≠b.length→eqToks a b=false:=fun a b h=>by
  cases e:eqToks a b with
  | false=>rfl
  | true=>exact absurd (by rw [eqToks_eq a b e]) h
theorem Equal_ev (l m:List Tok) (hl:l.length≤1048576):Ev (fun k=>slices_Equal_impl_Token_impl_Token.f k l m) (eqToks l m):=by
  unfold slices_Equal_impl_Token_impl_Token.f
  refine evIte (fun h=>?_) (fun h=>?_)
  · exact equal_l0 l m hl (by omega) l m 0 rfl rfl (by omega)
  · rw [eqToks_length l m (by omega)]
    exact Ev.now _
theorem impl_RingRight_ev (n:Int) (l:List Tok) (hl:l.length≤1048576):Ev (fun k=>impl_RingRight.f k n l) (ringOk n l):=by
  unfold impl_RingRight.f ringOk
  refine evBind1 (isNode_is _) ?_
  cases hn:isNode n with
  | false=>exact evNeg (by simp) (Ev.now _)
  | true =>
    have hn':=(isNode_iff n).1 hn
    have hd:wrap64 ((l.length:Int) / n)=(l.length:Int) / n:=by
      have a:=Int.ediv_nonneg (show (0:Int)≤(l.length:Int) by omega) (show 0≤n by omega)
      have b:=Int.ediv_le_self n (show (0:Int)≤(l.length:Int) by omega)
      exact w64 (by omega) (by omega)
    rw [hd]
    refine evPos rfl (evNeg (by omega) (evBind1 (within_is _ _ _) ?_))
    cases he:isWithin ((l.length:Int) / n) 1 8 with
    | false=>exact evNeg (by simp) (Ev.now _)
    | true=>exact evPos rfl (Ev.bind (ring_is hn he).1 (Ev.bind (Equal_ev l _ hl) (Ev.now _)))
theorem specRight_l0 (n n':Int) (l m:List Tok) (hl:l.length≤1048576) (hm:m.length=l.length):∀ (s t:List Tok) (i:Nat),l.drop i=s→m.drop i=t→i≤l.length →
    Ev (fun k=>spec_RingRight.l0 k (i:Int) n l n' m) (eqToks s t)
  | [],t,i,h,h',hi=>by
    have e:=dropNil' h hi
    have:t=[]:=by rw [← h',List.drop_eq_nil_of_le (by omega)]
    subst this
    refine Ev.step (f:=fun _=>some true) (fun k=>?_) (Ev.now _)
    simp only [spec_RingRight.l0]
    rw [if_neg (by omega)]
  | x :: s,[],i,h,h',hi=>by
    have a:=(dropCons h z57).1
    have b:=dropNil h'
    omega
  | x :: s,y :: t,i,h,h',hi=>by
    obtain ⟨h1,h2,h3⟩:=dropCons h z57
    obtain ⟨g1,g2,g3⟩:=dropCons h' z57
    have hr:rd_T57 l (i:Int)=x:=by simpa [rd_T57] using h2
    have gr:rd_T57 m (i:Int)=y:=by simpa [rd_T57] using g2
    have ih:=specRight_l0 n n' l m hl hm s t (i+1) h3 g3 (by omega)
    refine Ev.step (fun k=>by simp only [spec_RingRight.l0,hr,gr,tokNe];rw [if_pos (by omega),if_pos (by omega),if_pos (by omega)]) ?_
    unfold eqToks
    cases x.f0 == y.f0 && x.f1 == y.f1 with
    | false=>exact evPos (by rfl) (Ev.now _)
    | true =>
      refine evNeg (by simp) ?_
      rw [w64 (by omega) (by omega)]
      exact ih
theorem spec_RingRight_ev (n:Int) (l:List Tok) (hl:l.length≤1048576):Ev (fun k=>spec_RingRight.f k n l) (ringOk n l):=by
  unfold spec_RingRight.f ringOk
  have jT:Ev (fun k=>spec_RingRight.j0 k true n l) false:=Ev.step (f:=fun _=>some false) (fun k=>by simp [spec_RingRight.j0]) (Ev.now _)
  refine evBind1 (l02Node_is _) ?_
  cases hn:isNode n with
  | false=>exact evNeg (by simp) jT
  | true =>
    have hn':=(isNode_iff n).1 hn
    have a:=Int.ediv_nonneg (show (0:Int)≤(l.length:Int) by omega) (show 0≤n by omega)
    have b:=Int.ediv_le_self n (show (0:Int)≤(l.length:Int) by omega)
    have hq:=Int.mul_ediv_add_emod (l.length:Int) n
    have hm0:=Int.emod_nonneg (l.length:Int) (show n≠0 by omega)
    have hm1:=Int.emod_lt_of_pos (l.length:Int) (show 0<n by omega)
    rw [w64 (x:=8*n) (by omega) (by omega)]
    -- where the lengths do not fit, the two are not the same
    have no:(isWithin ((l.length:Int) / n) 1 8 && eqToks l (ringT n ((l.length:Int) / n)))=true→1≤(l.length:Int)∧(l.length:Int)≤8*n∧(l.length:Int) % n=0:=by
      intro h
      simp only [Bool.and_eq_true] at h
      have hL:=(ring_is hn h.1).2.2
      rw [← eqToks_eq _ _ h.2] at hL
      have hw:=h.1
      simp only [isWithin,Bool.and_eq_true,decide_eq_true_eq] at hw
      have h8:n*((l.length:Int) / n)≤n*8:=Int.mul_le_mul_of_nonneg_left (by omega) (by omega)
      have h9:n*1≤n*((l.length:Int) / n):=Int.mul_le_mul_of_nonneg_left (by omega) (by omega)
      refine ⟨by omega,by omega,by omega⟩
    have fl:(¬ (1≤(l.length:Int)∧(l.length:Int)≤8*n∧(l.length:Int) % n=0))→(isWithin ((l.length:Int) / n) 1 8 && eqToks l (ringT n ((l.length:Int) / n)))=false:=fun h=>by
      cases e:(isWithin ((l.length:Int) / n) 1 8 && eqToks l (ringT n ((l.length:Int) / n))) with
      | false=>rfl
      | true=>exact absurd (no e) h
    refine evPos rfl ?_
    rw [Bool.true_and]
    by_cases c1:(l.length:Int)<1
    · rw [fl (by omega)];exact evPos c1 jT
    · refine evNeg c1 ?_
      by_cases c2:(l.length:Int)>8*n
      · rw [fl (by omega)];exact evPos c2 jT
      · refine evNeg c2 (evNeg (by omega) ?_)
        by_cases c3:(l.length:Int) % n=0
        · have e3:((l.length:Int) % n != 0)=false:=by simp [c3]
          rw [e3]
          have hlo:1≤(l.length:Int) / n:=by
            apply Int.not_lt.1
            intro hlt
            have:(l.length:Int) / n=0:=by omega
            rw [this] at hq
            omega
          have hhi:(l.length:Int) / n≤8:=by
            apply Int.not_lt.1
            intro hlt
            have:n*9≤n*((l.length:Int) / n):=Int.mul_le_mul_of_nonneg_left (by omega) (by omega)
            omega
          have he:isWithin ((l.length:Int) / n) 1 8=true:=by simp only [isWithin,Bool.and_eq_true,decide_eq_true_eq];omega
          have hL:=(ring_is hn he).2.2
          rw [he,Bool.true_and]
          refine Ev.step (fun k=>by simp only [spec_RingRight.j0];rw [if_neg (by simp),if_neg (by omega),w64 (x:=(l.length:Int) / n) (by omega) (by omega)]) (Ev.bind (ring_is hn he).2.1 ?_)
          exact specRight_l0 n n l (ringT n ((l.length:Int) / n)) hl (by omega) l _ 0 rfl rfl (by omega)
        · have e3:((l.length:Int) % n != 0)=true:=by simp [c3]
          rw [e3,fl (by omega)]
          exact jT
theorem szRing_is (a:Int) (l:List LTok) (n:Int) (h0:0≤n) (h1:n≤1048576) (hl:l.length≤9223372036854775807):laws_szRing.f a l n=some (if n<(l.length:Int) then -1 else n-(l.length:Int)):=by
  unfold laws_szRing.f
  rw [szTokenS_is l n h0 h1 hl,Option.bind_some]
  by_cases h:n<(l.length:Int)
  · rw [if_pos h];rfl
  · rw [if_neg h,if_neg (by omega)]
end Go.Proofs.YtdogendcjmgnnaaDoor.Q

namespace Go.Proofs.YtdogendcjmgnnaaDoor.Pure
open Go.RowKit Go.Proofs.YtdogendcjmgnnaaDoor.P Go.Proofs.YtdogendcjmgnnaaDoor.Q Go.Proofs.YtdogendcjmgnnaaDoorW.PrintWords Go.Proofs.YtdogendcjmgnnaaDoorW.PrintMore
theorem FnExactRingRight:laws_FnExactRingRight.Pure:=by
  intro x hx
  have hl:x.f1.length≤9223372036854775807:=hx.2.1
  refine Ev.rounds ?_
  unfold laws_FnExactRingRight.f
  refine evBind1 (szRing_is x.f0 x.f1 _ (by omega) (by omega) hl) (evIte (fun _=>Ev.now _) (fun h=>?_))
  have hl':x.f1.length≤1048576:=by
    split at h <;> omega
  have ta:=toRing_ev x.f0 x.f1 hl'
  have ga:(x.f1.map toTok).length≤1048576:=by simpa using hl'
  generalize x.f1.map toTok=l at ta ga
  refine Ev.bind ta (Ev.bind (spec_RingRight_ev x.f0 l ga) (Ev.bind ta (Ev.bind (impl_RingRight_ev x.f0 l ga) (evNeg (by simp) ?_))))
  exact Ev.bind ta (Ev.bind (eqRing_ev x.f0 l (by omega)) (evPos rfl (Ev.now _)))
end Go.Proofs.YtdogendcjmgnnaaDoor.Pure

namespace Go.Proofs.YtdogendcjmgnnaaDoor.fnExactRingRight
open Go.ChangeShapes Go.WideShapes Go.ChangeAt Go.RowKit Go.Proofs.YtdogendcjmgnnaaDoor.P Go.Proofs.YtdogendcjmgnnaaDoor.RO Go.Proofs.YtdogendcjmgnnaaDoor.Open Go.Proofs.YtdogendcjmgnnaaDoorW.PrintWords
open Go.ChangeMaps (open_string shut_string)
set_option linter.unusedVariables false
theorem own:ownKnob Tryd.prog.godebug=none:=by kernel_rfl
theorem laidOut:laidOutB Tryd.prog=true:=by kernel_rfl
set_option maxRecDepth 100000 in
theorem lifted (os:Os) (started:os.Started) (H:Type) (enc:TypeId × Value→H) :
    ReturnsInHanded {} Tryd.checked os 3 .any (fun w args=>(Rows.fnExactRingRightSpec.pre enc Tryd.prog Tryd.f3 Rows.fnExactRingRightRow.domain false w args∧laidMetH Tryd.prog Rows.fnExactRingRightRow.laid w)∧sizedMet enc Tryd.prog Tryd.f3 (OpenSpec.ofChange Rows.fnExactRingRightSpec) false w args) (Rows.fnExactRingRightSpec.post enc Tryd.prog Tryd.f3 false true false false):=by
  refine returnsInHanded_of_change_and (C:=Tryd.checked) (X:=fun w _=>laidMetH Tryd.prog Rows.fnExactRingRightRow.laid w) (fun _ _ _ hh h=>h.of_heap hh) own started (by kernel_rfl) Tryd.func3
    (ChangeSpec.witness_shaped (enc:=enc) (C:=Tryd.checked) (X:=fun w _=>laidMetH Tryd.prog Rows.fnExactRingRightRow.laid w) false (World.laidAll Tryd.prog os Rows.fnExactRingRightRow.laid) #[.agg #[.int .i64 0,.slice none 0 0]] 8 (World.laidAll_os _ _ _) (World.shaped_of_ZipB (by kernel_rfl) (by kernel_rfl)) (by kernel_rfl) (by kernel_rfl) (by kernel_rfl)
      (by rw [MakeChecks.laidMetH_plain _ _ _ (by kernel_rfl)];exact laidMet_laidAll _ (by kernel_rfl) (by kernel_rfl))) ?_
  intro W base args ds gs before hval0 hW hcnd hsz0 hL_ _
  have hsz:(DataW.weightsEach Tryd.prog (Tryd.f3.params.toList ++ Rows.fnExactRingRightSpec.plain.varTypes Tryd.prog) (ds ++ gs)).all (· ≤ reachBytes)=true:=hsz0
  have hval:∀ (j:Nat) t v,Tryd.f3.params[j]? = some t→args[j]? = some v→Value.okWide Tryd.prog W .any base t v:=hval0
  have hW':=hW
  obtain ⟨p,q,hA0,hV,rfl,hfz,hnd⟩:=hW
  have hA:DataW.TrodAll enc Tryd.prog W 0 (fun _=>true) true Tryd.f3.params.toList args.toList ds p:=hA0
  rw [Tryd.params3] at hA hval hsz
  obtain ⟨v0,vs0,d0,ds0,p0,q0,hargs,rfl,rfl,h0,r0⟩:=trodAll_cons hA
  obtain ⟨rfl,rfl,rfl⟩:=trodAll_nil r0
  obtain rfl:args=#[v0]:=by cases args;simp_all
  obtain ⟨rfl,rfl⟩:=trodVars_none hV
  have k0:=h0
  have lt0:∀ x ∈ p0,x.block<W.heap.size:=by obtain ⟨m,hm⟩:=k0;exact DataW.trod_lt m _ _ _ hm
  obtain ⟨cs0,rfl,_⟩:=okWide_struct Tryd.underlying24 (hval 0 24 v0 rfl rfl)
  obtain ⟨fuel0,hf0⟩:=h0
  obtain ⟨x0,hk0,w0⟩:=op_T24 hf0
  obtain ⟨A0_1,c0_1,hcs0,hl0_1,hr0_1⟩:=k24_open hk0
  obtain rfl:cs0=#[.int .i64 x0.f0,.slice A0_1 x0.f1.length c0_1]:=Array.toList_inj.1 hcs0
  clear hA0 hval0 hsz0 hsz
  obtain ⟨k,hp⟩:=Pure.FnExactRingRight x0 w0
  refine (P.laws_FnExactRingRight.calls k x0.f0 _ _ x0.f1 true W hr0_1 hl0_1 hp).mono fun e W' ⟨he,bel0⟩=>?_
  have bel:Below W.heap.size W W':=bel0
  subst he
  exact ⟨_,rfl,_,_,_,[],_,[],hW',trodAll_mk1 (shut_bool Tryd.underlying4 _),(trodAll_cons_mk (Below.trod laidOut (by kernel_rfl) (of_decide_eq_true (by kernel_rfl)) k0 bel lt0) trodAll_mk0),rfl,bel.frame _,fun h=>by cases h⟩
theorem over:Rows.fnExactRingRightRow.holds Tryd.pinned (OpenSpec.ofChange Rows.fnExactRingRightSpec) :=
  OpenClaim.holds_of_wide 3 Tryd.f3 rfl rfl rfl rfl rfl rfl rfl ⟨rfl,rfl,rfl,rfl,rfl⟩ rfl rfl rfl rfl rfl (by kernel_rfl) Tryd.func3 (by kernel_rfl)
    (of_decide_eq_true (by kernel_rfl)) (by unfold Func.isWrapper;first | (rw [if_pos (by decide +kernel)];kernel_rfl) | (rw [if_neg (by decide +kernel)];exact ⟨rfl,rfl⟩))
    (fun os started H enc _=>lifted os started H enc)
theorem proved:Rows.FnExactRingRightSaid:=over
theorem card:Rows.FnExactRingRightCardSaid :=
  Claim7.holds_tied_plain_at .later [] [.data,.data,.data] true (true, "ec164a04fd4b5fbfa775392ccf34910d927062456d59d87074f881a1f57c5866") false proved (fun _ h=>by cases h) (by kernel_rfl) (fun _ h=>by cases h) fnExactRingRight_row_tie rfl ⟨rfl,rfl⟩ (by kernel_rfl) rfl
    (fun f fn hf hfn=>by
      obtain rfl:f=3:=Option.some.inj ((show Tryd.prog.funcNamed Rows.fnExactRingRightRow.func=some 3 by kernel_rfl).symm.trans hf) |>.symm
      obtain rfl:fn=Tryd.f3:=(Option.some.inj (Tryd.func3.symm.trans hfn)).symm
      exact ⟨by kernel_rfl,fun j t ht=>by
        rw [Tryd.params3] at ht
        have h_:t ∈ [24]:=by have:=Array.mem_of_getElem? ht;simpa using this
        have hs_:∀ x ∈ [24],Tryd.prog.wantsStandIn x=false:=by
          intro x hx
          simp only [List.mem_cons,List.not_mem_nil,or_false] at hx
          rcases hx with rfl <;> kernel_rfl
        exact hs_ t h_⟩)
    (by kernel_rfl)
#print axioms card
#print axioms proved
end Go.Proofs.YtdogendcjmgnnaaDoor.fnExactRingRight
namespace Go.Proofs.YtdogendcjmgnnaaDoor
/-- The row, under a short name, for the claim. -/
theorem fnExactRingRight_holds:Rows.FnExactRingRightCardSaid:=fnExactRingRight.card
end Go.Proofs.YtdogendcjmgnnaaDoor
