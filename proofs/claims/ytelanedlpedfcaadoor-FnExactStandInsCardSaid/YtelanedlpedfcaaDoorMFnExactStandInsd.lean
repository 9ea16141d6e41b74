/- For all rings, keys, numbers and lists of nodes that are down the program's StandIns and the reference's return the same, of memory of its own, and leave what they are given. No condition. (Part 4 of 5: written by programs of this workplace and by hand, merged.) -/
import Derived.Test.YtelanedlpedfcaaDoorMFnExactStandInsa
import Derived.Test.YtelanedlpedfcaaDoorMFnExactStandInsb
import Derived.Test.YtelanedlpedfcaaDoorMFnExactStandInsc
import Derived.Lib.SliceRun
set_option linter.unusedVariables false
set_option linter.unusedSimpArgs false

namespace Go.Proofs.YtelanedlpedfcaaDoor.P
open Go.RowKit Go.Proofs.YtelanedlpedfcaaDoorW.PrintWords Go.Proofs.YtelanedlpedfcaaDoorW.PrintLast Go.Proofs.YtelanedlpedfcaaDoorW.PrintMore
attribute [local go_sem] max2_int min2_int max_two min_two max_three min_three max_four min_four   -- for this text's walks alone
set_option linter.unusedVariables false
set_option linter.unusedSimpArgs false

/-! ### impl_ringNew: function 44 -/
mutual
def impl_ringNew.l0:Nat→Int→Int→Int→Int→List (S59)→Option (Int × (List (S59)))
 | 0,_,_,_,_,_=>none
 | k+1,x0,x1,x6,x347000,x347001=>if x6≤x0 then (impl_ringNew.l1 k x0 x1 x6 1 x347000 x347001) else ((slices_SortFunc_impl_Token_impl_Token_impl_ringNew_1.f k x347001).bind fun t347=>(some (x347000,t347)))
def impl_ringNew.l1:Nat→Int→Int→Int→Int→Int→List (S59)→Option (Int × (List (S59)))
 | 0,_,_,_,_,_,_=>none
 | k+1,x0,x1,x6,x7,x347000,x347001=>if x7≤x1 then ((impl_decimal.f k x6).bind fun t348=>(if t348.size+1≤9223372036854775807 then ((impl_decimal.f k x7).bind fun t349=>(if (t348.size+1)+t349.size≤9223372036854775807 then ((impl_fnv.f k ((t348 ++ (⟨#[45]⟩:ByteArray)) ++ t349)).bind fun t350=>(if x347001.length<8796093022208 then (impl_ringNew.l1 k x0 x1 x6 (wrap64 (x7+1)) x347000 (x347001 ++ [(⟨t350,x6⟩:S59)])) else (none))) else (none))) else (none))) else (impl_ringNew.l0 k x0 x1 (wrap64 (x6+1)) x347000 x347001)
end
def impl_ringNew.f (k:Nat) (a0:Int) (a1:Int):Option (Int × (List (S59))):=impl_ringNew.l0 k a0 a1 1 a0 ([]:List (S59))
theorem impl_ringNew.mono_l:∀ k,(∀ y0 y1 y2 y3 y4,LeO (impl_ringNew.l0 k y0 y1 y2 y3 y4) (impl_ringNew.l0 (k+1) y0 y1 y2 y3 y4))∧(∀ y0 y1 y2 y3 y4 y5,LeO (impl_ringNew.l1 k y0 y1 y2 y3 y4 y5) (impl_ringNew.l1 (k+1) y0 y1 y2 y3 y4 y5))
 | 0=>⟨fun _ _ _ _ _ r h=>by simp [impl_ringNew.l0] at h,fun _ _ _ _ _ _ r h=>by simp [impl_ringNew.l1] at h⟩
 | k+1=>by
  obtain ⟨ih0,ih1⟩:=impl_ringNew.mono_l k
  refine ⟨?_,?_⟩
  ·intro y0 y1 y2 y3 y4
   unfold impl_ringNew.l0
   repeat' first
   | (with_reducible exact ih0 _ _ _ _ _)
   | (with_reducible exact ih1 _ _ _ _ _ _)
   | (with_reducible exact impl_decimal.mono _ _)
   | (with_reducible exact impl_fnv.mono _ _)
   | (with_reducible exact slices_SortFunc_impl_Token_impl_Token_impl_ringNew_1.mono _ _)
   | (with_reducible exact LeO.refl _)
   | (with_reducible exact LeO.none _)
   | (with_reducible refine LeO.ite ?_ ?_)
   | (with_reducible refine LeO.bind ?_ (fun _=>?_))
   | exact ih0 _ _ _ _ _
   | exact ih1 _ _ _ _ _ _
   | exact impl_decimal.mono _ _
   | exact impl_fnv.mono _ _
   | exact slices_SortFunc_impl_Token_impl_Token_impl_ringNew_1.mono _ _
   | exact LeO.none _
   | refine LeO.ite ?_ ?_
   | refine LeO.bind ?_ (fun _=>?_)
  ·intro y0 y1 y2 y3 y4 y5
   unfold impl_ringNew.l1
   repeat' first
   | (with_reducible exact ih0 _ _ _ _ _)
   | (with_reducible exact ih1 _ _ _ _ _ _)
   | (with_reducible exact impl_decimal.mono _ _)
   | (with_reducible exact impl_fnv.mono _ _)
   | (with_reducible exact slices_SortFunc_impl_Token_impl_Token_impl_ringNew_1.mono _ _)
   | (with_reducible exact LeO.refl _)
   | (with_reducible exact LeO.none _)
   | (with_reducible refine LeO.ite ?_ ?_)
   | (with_reducible refine LeO.bind ?_ (fun _=>?_))
   | exact ih0 _ _ _ _ _
   | exact ih1 _ _ _ _ _ _
   | exact impl_decimal.mono _ _
   | exact impl_fnv.mono _ _
   | exact slices_SortFunc_impl_Token_impl_Token_impl_ringNew_1.mono _ _
   | exact LeO.none _
   | refine LeO.ite ?_ ?_
   | refine LeO.bind ?_ (fun _=>?_)
theorem impl_ringNew.mono:∀ a0 a1 k,LeO (impl_ringNew.f k a0 a1) (impl_ringNew.f (k+1) a0 a1):=by
 intro a0 a1 k
 obtain ⟨ih0,ih1⟩:=impl_ringNew.mono_l k
 unfold impl_ringNew.f
 repeat' first
   | (with_reducible exact ih0 _ _ _ _ _)
   | (with_reducible exact ih1 _ _ _ _ _ _)
   | (with_reducible exact impl_decimal.mono _ _)
   | (with_reducible exact impl_fnv.mono _ _)
   | (with_reducible exact slices_SortFunc_impl_Token_impl_Token_impl_ringNew_1.mono _ _)
   | (with_reducible exact LeO.refl _)
   | (with_reducible exact LeO.none _)
   | (with_reducible refine LeO.ite ?_ ?_)
   | (with_reducible refine LeO.bind ?_ (fun _=>?_))
   | exact ih0 _ _ _ _ _
   | exact ih1 _ _ _ _ _ _
   | exact impl_decimal.mono _ _
   | exact impl_fnv.mono _ _
   | exact slices_SortFunc_impl_Token_impl_Token_impl_ringNew_1.mono _ _
   | exact LeO.none _
   | refine LeO.ite ?_ ?_
   | refine LeO.bind ?_ (fun _=>?_)
def impl_ringNew.T8:Bool × List (List Nat × List Nat):=(true,[([],[]),([0],[0]),([],[]),([2],[2]),([3],[3]),([],[]),([5,3],[5]),([4,6],[4,6]),([7,6],[7]),([],[]),([8,9],[8,9]),([10],[10]),([1,11,8],[1,11]),([0,1,2,3,4,5,6,7,8,9,10,11,12],[]),([13,12,12,0,1,2,3,4,5,6,7,8,9,10,11,12],[12,13])])
def impl_ringNew.B8:List Nat:=[0,1,0,4,12,0,44,124,252,0,1020,2044,4095,8191,16383]
theorem impl_ringNew.tab8:rtab .any (opsOf Tryd.f44 8)=impl_ringNew.T8:=by kernel_rfl
theorem impl_ringNew.bits8:waitsOk impl_ringNew.T8.2 impl_ringNew.B8=true:=by kernel_rfl
set_option maxHeartbeats 8000000 in
set_option maxRecDepth 100000 in
theorem impl_ringNew.calls (k:Nat) (a0:Int) (a1:Int) (r1:Int) (r2:List (S59)) (w:World) (h:impl_ringNew.f k a0 a1=some (r1,r2)) :
  Calls Tryd.prog 44 #[.int .i64 a0,.int .i64 a1] w fun e w'=>∃ v1_:Value,e = .returned (.agg #[.int .i64 r1,v1_])∧Kd.R k59 59 w' w.heap.size (fun _=>True) v1_ r2∧Below w.heap.size w w':=by
 have hu30:=Tryd.underlying30
 have hu59:=Tryd.underlying59
 have HB:=Aside0.mk (Below.refl w.heap.size w)
 have H:(impl_ringNew.l0 k a0 a1 1 a0 ([]:List (S59)))=some (r1,r2):=h
 clear h
 have H':=Aside0.mk H
 clear H
 go_enter Tryd.func44,Tryd.ntmps44
 go_wp2_with (first | ((with_reducible refine gd_ 4 ?_);refine be_ 4 #[.int .i64 0,.slice none 0 0] 30 ?_;intro gb345 hg w3 hbox hb;refine as4_ (below_step (z6_ HB.out) hb) (hbox) ((z8_ HB.out:w.heap.size≤gb345)) ((z8_ HB.out:w.heap.size≤gb345)) ?_;clear HB;intro HB BK345 GW345 GE345;clear hb hbox hg) | ((with_reducible refine gd_ 5 ?_);refine be_ 5 #[.int .i64 0,.slice none 0 0] 30 ?_;intro gb346 hg w4 hbox hb;refine as7_ (blkB_ BK345.out hb) (below_step (z4_ HB.out GE345.out) hb) (hbox) ((z12_ HB.out GE345.out:w.heap.size≤gb346)) ((z12_ HB.out GE345.out:w.heap.size≤gb346)) (neL_ BK345.out hg) (neG_ BK345.out hg) ?_;clear BK345 HB;intro BK345 HB BK346 GW346 GE346 NB345_346 NB346_345;clear hb hbox hg;have hnb5:=NB346_345.out;have hnc5:=NB345_346.out;have ⟨hcz6_0,hcz6_1,hfz6_0,hfz6_1⟩:=cz2_ BK346.out))
 go_loopg [6] k (fun kq v6 w'=>∃ (x6_1:Int) (x347001_1:List (S59)) (u347001:Value),v6 = .int .i64 x6_1∧Aside0 (impl_ringNew.l0 kq a0 a1 x6_1 a0 x347001_1=some (r1,r2))∧Aside0 (kq≤k)∧Aside0 (Kd.R k59 59 w' w.heap.size (fun _=>True) u347001 x347001_1)∧Aside0 (w'.heap[gb345]? = some (.cells #[.int .i64 0,(.slice none 0 0)] 30 (0,0)))∧Aside0 (w'.heap[gb346]? = some (.cells #[.int .i64 a0,u347001] 30 (0,0)))∧Aside0 (Below w.heap.size w w'))
 case atStart=>exact ⟨(1),(([]:List (S59))),(.slice none 0 0),(z1_),H',⟨Nat.le_refl _⟩,⟨z28_⟩,⟨z26_ NB345_346.out BK345.out⟩,⟨z24_ BK346.out⟩,⟨z7_ HB.out GE345.out GE346.out⟩⟩
 case round =>
  clear H'
  try clear p2
  try clear c4
  try clear c5
  try clear hcz6_0
  try clear hcz6_1
  try clear hfz6_0
  try clear hfz6_1
  obtain ⟨x6_1,x347001_1,u347001,rfl,HA,HK1,HO_347001,BK345,BK346,HB⟩:=hrel
  cases gk with
  | zero=>exact absurd HA.out (by simp [impl_ringNew.l0])
  | succ k1 =>
   have H:=HA.out
   clear HA
   simp only [impl_ringNew.l0] at H
   by_cases c7:x6_1≤a0
   ·rw [if_pos c7] at H
    have c7b0:decide (x6_1≤a0)=true:=decide_eq_true c7
    clear c7
    have H':=Aside0.mk H
    clear H
    go_wp2
    go_loopg [7] k1 (fun kq v7 w'=>∃ (x7_2:Int) (x347001_2:List (S59)) (u347001:Value),v7 = .int .i64 x7_2∧Aside0 (impl_ringNew.l1 kq a0 a1 x6_1 x7_2 a0 x347001_2=some (r1,r2))∧Aside0 (kq≤k1)∧Aside0 (Kd.R k59 59 w' w.heap.size (fun _=>True) u347001 x347001_2)∧Aside0 (w'.heap[gb345]? = some (.cells #[.int .i64 0,(.slice none 0 0)] 30 (0,0)))∧Aside0 (w'.heap[gb346]? = some (.cells #[.int .i64 a0,u347001] 30 (0,0)))∧Aside0 (Below w.heap.size w w'))
    case atStart=>exact ⟨(1),(x347001_1),(u347001),(z1_),H',⟨Nat.le_refl _⟩,⟨z2_ HO_347001.out⟩,⟨z3_ BK345.out⟩,⟨z3_ BK346.out⟩,⟨z7_ HB.out GE345.out GE346.out⟩⟩
    case round =>
     clear H'
     try clear p2
     try clear c4
     try clear c5
     try clear c7
     try clear c7b0
     try clear hcz6_0
     try clear hcz6_1
     try clear hfz6_0
     try clear hfz6_1
     try clear p2
     obtain ⟨x7_2,x347001_2,u347001,rfl,HA,HK2,HO_347001,BK345,BK346,HB⟩:=hrel
     cases gk with
     | zero=>exact absurd HA.out (by simp [impl_ringNew.l1])
     | succ k2 =>
      have H:=HA.out
      clear HA
      simp only [impl_ringNew.l1] at H
      by_cases c8:x7_2≤a1
      ·rw [if_pos c8] at H
       have c8b0:decide (x7_2≤a1)=true:=decide_eq_true c8
       clear c8
       replace H:=Option.bind_eq_some_iff.mp H
       obtain ⟨t348,A90,H⟩:=H
       replace H:(if t348.size+1≤9223372036854775807 then ((impl_decimal.f k2 x7_2).bind fun t349=>(if (t348.size+1)+t349.size≤9223372036854775807 then ((impl_fnv.f k2 ((t348 ++ (⟨#[45]⟩:ByteArray)) ++ t349)).bind fun t350=>(if x347001_2.length<8796093022208 then (impl_ringNew.l1 k2 a0 a1 x6_1 (wrap64 (x7_2+1)) a0 (x347001_2 ++ [(⟨t350,x6_1⟩:S59)])) else (none))) else (none))) else (none))=some (r1,r2):=H
       have A9:=Aside0.mk A90
       clear A90
       by_cases c10:t348.size+1≤9223372036854775807
       ·rw [if_pos c10] at H
        have c10b0:=eq_true c10
        have c10b1:decide (t348.size+1≤9223372036854775807)=true:=decide_eq_true c10
        try have c10b2:(9223372036854775807<t348.size+1)=False:=eq_false (Nat.not_lt.2 c10)
        replace H:=Option.bind_eq_some_iff.mp H
        obtain ⟨t349,A110,H⟩:=H
        replace H:(if (t348.size+1)+t349.size≤9223372036854775807 then ((impl_fnv.f k2 ((t348 ++ (⟨#[45]⟩:ByteArray)) ++ t349)).bind fun t350=>(if x347001_2.length<8796093022208 then (impl_ringNew.l1 k2 a0 a1 x6_1 (wrap64 (x7_2+1)) a0 (x347001_2 ++ [(⟨t350,x6_1⟩:S59)])) else (none))) else (none))=some (r1,r2):=H
        have A11:=Aside0.mk A110
        clear A110
        by_cases c12:(t348.size+1)+t349.size≤9223372036854775807
        ·rw [if_pos c12] at H
         have c12b0:=eq_true c12
         have c12b1:decide ((t348.size+1)+t349.size≤9223372036854775807)=true:=decide_eq_true c12
         try have c12b2:(9223372036854775807<(t348.size+1)+t349.size)=False:=eq_false (Nat.not_lt.2 c12)
         replace H:=Option.bind_eq_some_iff.mp H
         obtain ⟨t350,A130,H⟩:=H
         replace H:(if x347001_2.length<8796093022208 then (impl_ringNew.l1 k2 a0 a1 x6_1 (wrap64 (x7_2+1)) a0 (x347001_2 ++ [(⟨t350,x6_1⟩:S59)])) else (none))=some (r1,r2):=H
         have A13:=Aside0.mk A130
         clear A130
         by_cases c14:x347001_2.length<8796093022208
         ·rw [if_pos c14] at H
          have LMc14:=Aside0.mk c14
          clear c14
          obtain ⟨y351,hy351⟩:∃ y_:List (S59),y_=(x347001_2 ++ [(⟨t350,x6_1⟩:S59)]):=⟨_,rfl⟩
          replace H:(impl_ringNew.l1 k2 a0 a1 x6_1 (wrap64 (x7_2+1)) a0 y351)=some (r1,r2):=by first | (rw [hy351];with_reducible exact H) | (have H2_:=(Option.bind_some _ _).symm.trans H;rw [hy351];with_reducible exact H2_) | (have H2_:=(Option.bind_some _ _).symm.trans H;with_reducible exact H2_) | with_reducible exact H | (rw [hy351];exact H) | exact H
          have Ny351:=Aside0.mk hy351
          clear hy351
          have H':=Aside0.mk H
          clear H
          try go_wp2
          refine as4_ (Kd.R_drew HO_347001.out) (blk_drew BK345.out) (blk_drew BK346.out) (below_drew1 HB.out) ?_
          clear HO_347001 BK345 BK346 HB
          intro HO_347001 BK345 BK346 HB
          refine start_ (n:=15) (S:=fun w'=>w'.cell? ⟨gb346,0,none⟩=some (.int .i64 a0)∧w'.cell? ⟨gb346,1,none⟩=some (u347001)) (ds:=[14]) #[O,O,O,O,O,O,O,O,O,O,O,O,O,O,O] (by kernel_rfl) rfl rfl (cc2_ BK346.out) (fun hHeld=>?_);refine with_tabW impl_ringNew.tab8 impl_ringNew.bits8 (fun HT_ HW_=>?_)
          generalize wr.drew=w15 at HO_347001 BK345 BK346 HB hHeld ⊢
          refine pu_ 0 20 #[I,O,O,O,O,O,O,O,O,O,O,O,O,O,O] HT_.out ?_
          refine pu_ 2 22 #[I,O,I,O,O,O,O,O,O,O,O,O,O,O,O] HT_.out ?_
          refine pu_ 5 25 #[I,O,I,O,O,I,O,O,O,O,O,O,O,O,O] HT_.out ?_
          refine pu_ 9 29 #[I,O,I,O,O,I,O,O,O,I,O,O,O,O,O] HT_.out ?_
          refine tk2_ 1 21 #[I,I,I,O,O,I,O,O,O,I,O,O,O,O,O] HT_.out HW_.out hHeld ?_
          refine o1_ 3 23 #[I,I,I,I,O,I,O,O,O,I,O,O,O,O,O] HT_.out (fun K hK=>?_)
          refine gs_ Tryd.func59 #[.int .i64 x6_1] ?_
          with_reducible refine (impl_decimal.calls k2 x6_1 t348 _ A9.out).mono ?_
          rintro e w' ⟨rfl,⟨nd,rfl⟩⟩
          refine ⟨_,rfl,?_⟩
          refine hK.out _ _ (cc2_ BK346.out) (fun hHeld=>?_)
          clear hK K
          refine nm_ 23 ?_
          refine pu_ 4 24 #[I,I,I,I,I,I,O,O,O,I,O,O,O,O,O] HT_.out ?_
          refine o1_ 6 26 #[I,I,I,I,I,I,I,O,O,I,O,O,O,O,O] HT_.out (fun K hK=>?_)
          refine gs_ Tryd.func59 #[.int .i64 x7_2] ?_
          with_reducible refine (impl_decimal.calls k2 x7_2 t349 _ A11.out).mono ?_
          rintro e w' ⟨rfl,⟨nd,rfl⟩⟩
          refine ⟨_,rfl,?_⟩
          refine hK.out _ _ (cc2_ BK346.out) (fun hHeld=>?_)
          clear hK K
          refine nm_ 26 ?_
          refine pu_ 7 27 #[I,I,I,I,I,I,I,I,O,I,O,O,O,O,O] HT_.out ?_
          refine o1_ 8 28 #[I,I,I,I,I,I,I,I,I,I,O,O,O,O,O] HT_.out (fun K hK=>?_)
          refine gs_ Tryd.func58 #[.string ((t348 ++ (⟨#[45]⟩:ByteArray)) ++ t349)] ?_
          with_reducible refine (impl_fnv.calls k2 ((t348 ++ (⟨#[45]⟩:ByteArray)) ++ t349) t350 _ A13.out).mono ?_
          rintro e w' ⟨rfl,⟨nd,rfl⟩⟩
          refine ⟨_,rfl,?_⟩
          refine hK.out _ _ (cc2_ BK346.out) (fun hHeld=>?_)
          clear hK K
          refine nm_ 28 ?_
          refine pu_ 10 30 #[I,I,I,I,I,I,I,I,I,I,I,O,O,O,O] HT_.out ?_
          refine o1_ 11 31 #[I,I,I,I,I,I,I,I,I,I,I,I,O,O,O] HT_.out (fun K hK=>?_)
          refine value_ (w1:=?_) (v:=?_) (by rfl) rfl ?_ ?_
          rotate_left 2
          ·go_simp
           constructor
           ·rfl
           ·rfl
          refine hK.out _ _ (cc2_ (blk_alloc BK346.out _)) (fun hHeld=>?_)
          clear hK K
          refine nm_ 31 ?_
          refine o1_ 12 32 #[I,I,I,I,I,I,I,I,I,I,I,I,I,O,O] HT_.out (fun K hK=>?_)
          refine Kd.R_append_step k59 (w0:=w) w.heap.size (by rfl) (.tmp 21) (.tmp 31) 28 59 (.agg #[(.int .i64 0),(.int .i64 0)]) 16 rfl Tryd.underlying28 info59 rfl (by decide) (by omega) u347001 x347001_2 (⟨t350,x6_1⟩:S59) [.int .i64 t350,.int .i64 x6_1] (fun _=>True) (fun _=>False) rfl rfl ?aP (fun _ hk=>hk.elim) ?aF ?aO ?aB ?aS ?aL ?_
          (case aP=>exact k59_mkM _ _ _ (⟨t350,x6_1⟩:S59))
          (case aB=>exact (z7_ HB.out GE345.out GE346.out))
          (case aF=>exact (fun _ _=>trivial))
          (case aO=>exact (z2_ HO_347001.out))
          (case aS=>exact (below_size (z7_ HB.out GE345.out GE346.out)))
          (case aL=>have:=LMc14.out;omega)
          intro v352 w16 ho hb hg hat
          rw [← Ny351.out] at ho
          refine as4_ (blk_grown (g:=gb345) (o:=.cells #[.int .i64 0,.slice none 0 0] 30 (0,0)) (z3_ BK345.out) hg (Kd.R_ne HO_347001.out BK345.out (by decide))) (blk_grown (g:=gb346) (o:=.cells #[.int .i64 a0,u347001] 30 (0,0)) (z3_ BK346.out) hg (Kd.R_ne HO_347001.out BK346.out (by decide))) (hb) (ho) ?_
          clear BK345 BK346 HB HO_347001
          intro BK345 BK346 HB HO353
          clear ho hb hg hat
          obtain ⟨Ao17,co17,eo17⟩:=Kd.R_slice HO353.out
          (first | subst eo17 | (injection eo17 with f1_ f2_ f3_;have f4_:=f1_.symm;have f5_:=f3_.symm;clear f1_ f2_ f3_;subst f4_;subst f5_))
          refine hK.out _ _ (cc2_ BK346.out) (fun hHeld=>?_)
          clear hK K
          refine nm_ 32 ?_
          refine pu_ 13 33 #[I,I,I,I,I,I,I,I,I,I,I,I,I,I,O] HT_.out ?_
          refine last_ (i:=14) (N:=none) #[I,I,I,I,I,I,I,I,I,I,I,I,I,I,I] rfl rfl (one_of HT_.out (by kernel_rfl)) (by decide) (fun K hK=>?_)
          have hs18:w16.cell? ⟨gb346,1,none⟩=some (u347001):=(blk_cell BK346.out 1).trans rfl
          have hfs18:=blk_frozen BK346.out 1
          have hns18_0:=NB345_346.out
          have hms18_0:=NB346_345.out
          refine skip_ (w1:=?_) (by rfl) rfl ?_ ?_
          rotate_left
          ·go_simp
           rfl
          refine hK.out _ _ ?_
          clear hK K
          refine done_ (done_of HT_.out (by kernel_rfl)) ?_
          try go_wp2
          go_roundg k2
          case measure=>have:=HK1.out;have:=HK2.out;omega
          case rel=>exact ⟨(wrap64 (x7_2+1)),(y351),(.slice Ao17 y351.length co17),(z1_),H',⟨z13_ HK1.out HK2.out⟩,⟨by (with_reducible repeat (first | apply Kd.R_alloc | apply Kd.R_drewN | apply Kd.R_drew));exact Kd.R_mono (Kd.R_far (p:=⟨gb346,1,none⟩) (Kd.R_types HO353.out BK346.out (by decide)) (fun _ hk=>hk.2) (.slice Ao17 y351.length co17)) (fun _ hk=>trivial)⟩,⟨z25_ NB345_346.out BK345.out⟩,⟨by (with_reducible repeat (first | refine blk_drewN ?_ _ | refine blk_drew ?_ | refine blk_alloc ?_ _));refine blk_put (cs:=#[.int .i64 a0,u347001]) ?_ 1 _ rfl;(with_reducible repeat (first | refine blk_drewN ?_ _ | refine blk_drew ?_ | refine blk_alloc ?_ _));exact BK346.out⟩,⟨z7_ HB.out GE345.out GE346.out⟩⟩
         ·rw [if_neg c14] at H
          exact absurd H (by simp)
        ·rw [if_neg c12] at H
         exact absurd H (by simp)
       ·rw [if_neg c10] at H
        exact absurd H (by simp)
      ·rw [if_neg c8] at H
       have c8b0:decide (x7_2≤a1)=false:=decide_eq_false c8
       clear c8
       have H':=Aside0.mk H
       clear H
       go_wp2
       go_roundg k2
       case measure=>have:=HK1.out;have:=HK2.out;omega
       case rel=>exact ⟨(wrap64 (x6_1+1)),(x347001_2),(u347001),(z1_),H',⟨z13_ HK1.out HK2.out⟩,⟨z2_ HO_347001.out⟩,⟨z3_ BK345.out⟩,⟨z3_ BK346.out⟩,⟨z7_ HB.out GE345.out GE346.out⟩⟩
   ·rw [if_neg c7] at H
    have c7b0:decide (x6_1≤a0)=false:=decide_eq_false c7
    clear c7
    replace H:=Option.bind_eq_some_iff.mp H
    obtain ⟨t347,A190,H⟩:=H
    replace H:(some (a0,t347))=some (r1,r2):=H
    have A19:=Aside0.mk A190
    clear A190
    simp only [Option.some.injEq,Prod.mk.injEq] at H
    obtain ⟨rfl,rfl⟩:=H
    have hnb20:=NB346_345.out
    have hnc20:=NB345_346.out
    have ⟨hcz21_0,hcz21_1,hfz21_0,hfz21_1⟩:=cz2_ BK346.out
    obtain ⟨Ao22,co22,eo22⟩:=Kd.R_slice HO_347001.out
    subst eo22
    go_wp2_with (first | ((with_reducible refine gc_ 60 ?_);refine gl_ (some 36) Tryd.func60 #[.slice Ao22 x347001_1.length co22,.func (.func 61) #[] #[]] ?_;(with_reducible refine (slices_SortFunc_impl_Token_impl_Token_impl_ringNew_1.calls k1 (fun k_=>some k_=(.slice Ao22 x347001_1.length co22:Value).ownBlock) (.slice Ao22 x347001_1.length co22) x347001_1  t347 w _ ?s1 ?s2 A19.out).mono ?_);(case s1=>repeat (first | (with_reducible first | exact HB.out | apply below_alloc | apply pw_below_drewN | apply below_drew1 | refine below_set ?_ GE345.out | refine below_set ?_ GE346.out) | exact HB.out));(case s2=>exact Kd.R_tight rfl HO_347001.out);rintro e w23 ⟨rfl,hy0,hb,hkp⟩;refine ⟨_,rfl,?_⟩;refine as4_ (Kd.R_reok rfl hy0 (fun k_ e_=>HO_347001.out.1 k_ e_)) (blk_kept (z3_ BK345.out) hkp (fun hs_=>(fun e_=>(Kd.R_ne HO_347001.out BK345.out (by decide)) e_) hs_)) (blk_kept (z3_ BK346.out) hkp (fun hs_=>(fun e_=>(Kd.R_ne HO_347001.out BK346.out (by decide)) e_) hs_)) (hb) ?_;clear HO_347001 BK345 BK346 HB;intro HO_347001 BK345 BK346 HB;(try clear hb);(try clear hkp);(try clear hy0);have ⟨hcz24_0,hcz24_1,hfz24_0,hfz24_1⟩:=cz2_ BK346.out;have ⟨hcz25_0,hcz25_1,hfz25_0,hfz25_1⟩:=cz2_ BK345.out))
    refine bodyPost_ret (results_cell_row rfl _ _ gb345 30 #[.int .i64 a0,.slice Ao22 x347001_1.length co22] (0,0) _ rfl (z24_ BK345.out) Tryd.underlying30 rfl (by kernel_rfl)) rfl ?_
    exact ⟨_,z10_,z36_ HO_347001.out BK345.out,z7_ HB.out GE345.out GE346.out⟩


/-! ### impl_RingRight: function 25 -/
def impl_RingRight.f (k:Nat) (a0_0:Int) (l0_1:List (S59)):Option (Bool):=(impl_isNode.f a0_0).bind fun t355=>(if t355=true then (if a0_0=0 then (none) else ((impl_within.f (wrap64 ((l0_1.length:Int) / a0_0)) 1 8).bind fun t356=>(if t356=true then ((impl_ringNew.f k a0_0 (wrap64 ((l0_1.length:Int) / a0_0))).bind fun bt357=>((slices_Equal_impl_Token_impl_Token.f k l0_1 bt357.2).bind fun t361=>(some t361))) else (some false)))) else (some false))
theorem impl_RingRight.mono:∀ a0 a1 k,LeO (impl_RingRight.f k a0 a1) (impl_RingRight.f (k+1) a0 a1):=by
 intro a0 a1 k
 unfold impl_RingRight.f
 repeat' first
   | (with_reducible exact impl_ringNew.mono _ _ _)
   | (with_reducible exact slices_Equal_impl_Token_impl_Token.mono _ _ _)
   | (with_reducible exact LeO.refl _)
   | (with_reducible exact LeO.none _)
   | (with_reducible refine LeO.ite ?_ ?_)
   | (with_reducible refine LeO.bind ?_ (fun _=>?_))
   | exact impl_ringNew.mono _ _ _
   | exact slices_Equal_impl_Token_impl_Token.mono _ _ _
   | exact LeO.none _
   | refine LeO.ite ?_ ?_
   | refine LeO.bind ?_ (fun _=>?_)
def impl_RingRight.T4:Bool × List (List Nat × List Nat):=(true,[([],[]),([0],[0]),([1,1],[1]),([2],[2]),([3,2],[2,3]),([2],[2]),([5,2],[2,5]),([2],[2]),([6,7,2,2],[2,6,7]),([8,2],[2,8]),([4,9,8,2],[2,4,9]),([2,10],[2,10]),([11,10,0,1,2,3,4,5,6,7,8,9,10,11],[11])])
def impl_RingRight.B4:List Nat:=[0,1,3,7,15,7,39,7,231,487,1023,2047,4095]
theorem impl_RingRight.tab4:rtab .any (opsOf Tryd.f25 4)=impl_RingRight.T4:=by kernel_rfl
theorem impl_RingRight.bits4:waitsOk impl_RingRight.T4.2 impl_RingRight.B4=true:=by kernel_rfl
abbrev impl_RingRight.q0:Array Bool:=#[O,O,O,O,O,O,O,O,O,O,O,O,O]
abbrev impl_RingRight.q1:Array Bool:=#[I,O,O,O,O,O,O,O,O,O,O,O,O]
abbrev impl_RingRight.q2:Array Bool:=#[I,I,O,O,O,O,O,O,O,O,O,O,O]
abbrev impl_RingRight.q3:Array Bool:=#[I,I,I,O,O,O,O,O,O,O,O,O,O]
abbrev impl_RingRight.q4:Array Bool:=#[I,I,I,I,O,O,O,O,O,O,O,O,O]
abbrev impl_RingRight.q5:Array Bool:=#[I,I,I,I,I,I,I,I,O,O,O,O,O]
abbrev impl_RingRight.q6:Array Bool:=#[I,I,I,I,I,I,I,I,I,O,O,O,O]
abbrev impl_RingRight.q7:Array Bool:=#[I,I,I,I,I,I,I,I,I,I,O,O,O]
abbrev impl_RingRight.q8:Array Bool:=#[I,I,I,I,I,I,I,I,I,I,I,O,O]
abbrev impl_RingRight.q9:Array Bool:=#[I,I,I,I,I,I,I,I,I,I,I,I,O]
abbrev impl_RingRight.q10:Array Bool:=#[I,I,I,I,I,I,I,I,I,I,I,I,I]
set_option maxHeartbeats 8000000 in
set_option maxRecDepth 100000 in
theorem impl_RingRight.calls (k:Nat) (a0_0:Int) (A0_1:Option Addr) (c0_1:Nat) (l0_1:List (S59)) (r:Bool) (w:World) (hr0_1:Kd.C k59 w A0_1 l0_1.length l0_1) (hc0_1:l0_1.length≤c0_1) (h:impl_RingRight.f k a0_0 l0_1=some r) :
  Calls Tryd.prog 25 #[.agg #[.int .i64 a0_0,.slice A0_1 l0_1.length c0_1]] w fun e w'=>e = .returned (.bool r)∧Below w.heap.size w w':=by
 have hu30:=Tryd.underlying30
 have hfd30:∀ (a:Int) (v:Value) (w:World),(Instr.field 30 (.agg #[.int .i64 a,v]) 1).run Tryd.prog w = .ok v w:=fun _ _ _=>by kernel_rfl
 have HR0_1:=Aside0.mk hr0_1
 have HC0_1:=Aside0.mk hc0_1
 clear hr0_1 hc0_1
 have HB:=Aside0.mk (Below.refl w.heap.size w)
 have H:((impl_isNode.f a0_0).bind fun t355=>(if t355=true then (if a0_0=0 then (none) else ((impl_within.f (wrap64 ((l0_1.length:Int) / a0_0)) 1 8).bind fun t356=>(if t356=true then ((impl_ringNew.f k a0_0 (wrap64 ((l0_1.length:Int) / a0_0))).bind fun bt357=>((slices_Equal_impl_Token_impl_Token.f k l0_1 bt357.2).bind fun t361=>(some t361))) else (some false)))) else (some false)))=some r:=h
 clear h
 replace H:=Option.bind_eq_some_iff.mp H
 obtain ⟨t355,A20,H⟩:=H
 replace H:(if t355=true then (if a0_0=0 then (none) else ((impl_within.f (wrap64 ((l0_1.length:Int) / a0_0)) 1 8).bind fun t356=>(if t356=true then ((impl_ringNew.f k a0_0 (wrap64 ((l0_1.length:Int) / a0_0))).bind fun bt357=>((slices_Equal_impl_Token_impl_Token.f k l0_1 bt357.2).bind fun t361=>(some t361))) else (some false)))) else (some false))=some r:=H
 have A2:=Aside0.mk A20
 clear A20
 by_cases c3:t355=true
 ·subst c3
  have H1:(if a0_0=0 then (none) else ((impl_within.f (wrap64 ((l0_1.length:Int) / a0_0)) 1 8).bind fun t356=>(if t356=true then ((impl_ringNew.f k a0_0 (wrap64 ((l0_1.length:Int) / a0_0))).bind fun bt357=>((slices_Equal_impl_Token_impl_Token.f k l0_1 bt357.2).bind fun t361=>(some t361))) else (some false))))=some r:=by rw [if_pos rfl] at H;exact H
  clear H
  have H:=H1
  clear H1
  by_cases c4:a0_0=0
  ·rw [if_pos c4] at H
   exact absurd H (by simp)
  ·rw [if_neg c4] at H
   have c4b0:(a0_0 == 0)=false:=beq_eq_false_iff_ne.mpr c4
   have c4b1:(a0_0 != 0)=true:=bne_iff_ne.mpr c4
   replace H:=Option.bind_eq_some_iff.mp H
   obtain ⟨t356,A50,H⟩:=H
   replace H:(if t356=true then ((impl_ringNew.f k a0_0 (wrap64 ((l0_1.length:Int) / a0_0))).bind fun bt357=>((slices_Equal_impl_Token_impl_Token.f k l0_1 bt357.2).bind fun t361=>(some t361))) else (some false))=some r:=H
   have A5:=Aside0.mk A50
   clear A50
   by_cases c6:t356=true
   ·subst c6
    have H1:((impl_ringNew.f k a0_0 (wrap64 ((l0_1.length:Int) / a0_0))).bind fun bt357=>((slices_Equal_impl_Token_impl_Token.f k l0_1 bt357.2).bind fun t361=>(some t361)))=some r:=by rw [if_pos rfl] at H;exact H
    clear H
    have H:=H1
    clear H1
    replace H:=Option.bind_eq_some_iff.mp H
    obtain ⟨⟨t357,t358⟩,A70,H⟩:=H
    replace H:((slices_Equal_impl_Token_impl_Token.f k l0_1 t358).bind fun t361=>(some t361))=some r:=H
    have A7:=Aside0.mk A70
    clear A70
    replace H:=Option.bind_eq_some_iff.mp H
    obtain ⟨t361,A80,H⟩:=H
    replace H:(some t361)=some r:=H
    have A8:=Aside0.mk A80
    clear A80
    obtain rfl:=Option.some.inj H
    go_enter Tryd.func25,Tryd.ntmps25
    try go_wp2_with (first | ((with_reducible refine gd_ 1 ?_);refine be_ 1 #[.int .i64 a0_0,.slice A0_1 l0_1.length c0_1] 30 ?_;intro gb354 hg w9 hbox hb;refine as4_ (below_step (z6_ HB.out) hb) (hbox) ((z8_ HB.out:w.heap.size≤gb354)) ((z8_ HB.out:w.heap.size≤gb354)) ?_;clear HB;intro HB BK354 GW354 GE354;clear hb hbox hg;have ⟨hcz10_0,hcz10_1,hfz10_0,hfz10_1⟩:=cz2_ BK354.out) | ((with_reducible refine gc_ 26 ?_);refine gl_ (some 6) Tryd.func26 #[.int .i64 a0_0] ?_;(with_reducible refine (impl_isNode.calls a0_0 true _ A2.out).mono ?_);rintro e w' ⟨rfl,⟨nd,rfl⟩⟩;refine ⟨_,rfl,?_⟩))
    (try (rw [drewN_self w9];generalize hq_:World.drewN w9 _=w9;have n0_:Aside0 (w9.heap[gb354]? = some (.cells #[.int .i64 a0_0,.slice A0_1 l0_1.length c0_1] 30 (0,0))):=⟨z41_ BK354.out⟩;have n1_:Aside0 (Below w.heap.size w w9):=⟨by rw [← hq_];exact (by repeat (first | (with_reducible first | exact HB.out | apply below_alloc | apply pw_below_drewN | apply below_drew1 | refine below_set ?_ GE354.out) | exact HB.out))⟩;clear BK354 HB hq_;have BK354:=n0_;have HB:=n1_;clear n0_ n1_))
    refine as2_ (blk_drew BK354.out) (below_drew1 HB.out) ?_
    clear BK354 HB
    intro BK354 HB
    refine start_ (n:=13) (S:=fun w'=>w'.cell? ⟨gb354,0,none⟩=some (.int .i64 a0_0)∧w'.cell? ⟨gb354,1,none⟩=some (.slice A0_1 l0_1.length c0_1)) (ds:=[]) impl_RingRight.q0 (by kernel_rfl) rfl rfl (cc2_ BK354.out) (fun hHeld=>?_);refine with_tabW impl_RingRight.tab4 impl_RingRight.bits4 (fun HT_ HW_=>?_)
    generalize w9.drew=w11 at BK354 HB hHeld ⊢
    refine pu_ 0 14 impl_RingRight.q1 HT_.out ?_
    refine o1_ 1 15 impl_RingRight.q2 HT_.out (fun K hK=>?_)
    refine gs_ Tryd.func42 #[.int .i64 (wrap64 ((l0_1.length:Int) / a0_0)),.int .i64 1,.int .i64 8] ?_
    with_reducible refine (impl_within.calls (wrap64 ((l0_1.length:Int) / a0_0)) 1 8 true _ A5.out).mono ?_
    rintro e w' ⟨rfl,⟨nd,rfl⟩⟩
    refine ⟨_,rfl,?_⟩
    refine hK.out _ _ (cc2_ BK354.out) (fun hHeld=>?_)
    clear hK K
    refine nm_ 15 ?_
    refine pu_ 2 16 impl_RingRight.q3 HT_.out ?_
    refine pu_ 3 17 impl_RingRight.q4 HT_.out ?_
    refine pu_ 5 19 #[I,I,I,I,O,I,O,O,O,O,O,O,O] HT_.out ?_
    refine pu_ 7 21 #[I,I,I,I,O,I,O,I,O,O,O,O,O] HT_.out ?_
    refine tk2_ 4 18 #[I,I,I,I,I,I,O,I,O,O,O,O,O] HT_.out HW_.out hHeld ?_
    refine tk2_ 6 20 impl_RingRight.q5 HT_.out HW_.out hHeld ?_
    refine o1_ 8 22 impl_RingRight.q6 HT_.out (fun K hK=>?_)
    refine gs_ Tryd.func44 #[.int .i64 a0_0,.int .i64 (wrap64 ((l0_1.length:Int) / a0_0))] ?_
    with_reducible refine (impl_ringNew.calls k a0_0 (wrap64 ((l0_1.length:Int) / a0_0)) t357 t358 _ A7.out).mono ?_
    rintro e w12 ⟨v359,rfl,ho0,hb⟩
    refine ⟨_,rfl,?_⟩
    refine as3_ (Kd.R_lower ho0 (below_size (z4_ HB.out GE354.out))) (blkB_ BK354.out hb) (below_step (z4_ HB.out GE354.out) hb) ?_
    clear BK354 HB
    intro HO360 BK354 HB
    (try clear hb)
    (try clear ho0)
    obtain ⟨Ao13,co13,eo13⟩:=Kd.R_slice HO360.out
    (first | subst eo13 | (injection eo13 with f1_ f2_ f3_;have f4_:=f1_.symm;have f5_:=f3_.symm;clear f1_ f2_ f3_;subst f4_;subst f5_))
    refine hK.out _ _ (cc2_ BK354.out) (fun hHeld=>?_)
    clear hK K
    refine nm_ 22 ?_
    refine pu_ 9 23 impl_RingRight.q7 HT_.out ?_
    refine o1_ 10 24 impl_RingRight.q8 HT_.out (fun K hK=>?_)
    refine gs_ Tryd.func43 #[.slice A0_1 l0_1.length c0_1,.slice Ao13 t358.length co13] ?_
    with_reducible refine (slices_Equal_impl_Token_impl_Token.calls k _ _ l0_1 _ _ t358 t361 _ ?s1 ?s2 ?s3 ?s4 A8.out).mono ?_
    (case s1=>repeat (first | exact (Kd.C_below HR0_1.out HB.out) | (with_reducible refine Kd.C_alloc ?_ _) | (with_reducible refine Kd.C_drewN ?_ _) | (with_reducible refine Kd.C_drew ?_)))
    (case s2=>exact HC0_1.out)
    (case s3=>repeat (first | exact (Kd.R_reads' HO360.out).2.2 | (with_reducible refine Kd.C_alloc ?_ _) | (with_reducible refine Kd.C_drewN ?_ _) | (with_reducible refine Kd.C_drew ?_)))
    (case s4=>exact (Kd.R_reads' HO360.out).2.1)
    rintro e w' ⟨rfl,⟨nd,rfl⟩⟩
    refine ⟨_,rfl,?_⟩
    refine hK.out _ _ (cc2_ BK354.out) (fun hHeld=>?_)
    clear hK K
    refine nm_ 24 ?_
    refine pu_ 11 25 impl_RingRight.q9 HT_.out ?_
    refine pu_ 12 2 impl_RingRight.q10 HT_.out ?_
    refine done_ (done_of HT_.out (by kernel_rfl)) ?_
    try go_wp2
    go_ret
    exact ⟨z10_,z4_ HB.out GE354.out⟩
   ·replace c6:=Bool.eq_false_iff.mpr c6
    subst c6
    have H1:(some false)=some r:=by rw [if_neg (show ¬ (false=true) by decide)] at H;exact H
    clear H
    have H:=H1
    clear H1
    obtain rfl:=Option.some.inj H
    go_enter Tryd.func25,Tryd.ntmps25
    try go_wp2_with (first | ((with_reducible refine gd_ 1 ?_);refine be_ 1 #[.int .i64 a0_0,.slice A0_1 l0_1.length c0_1] 30 ?_;intro gb354 hg w14 hbox hb;refine as4_ (below_step (z6_ HB.out) hb) (hbox) ((z8_ HB.out:w.heap.size≤gb354)) ((z8_ HB.out:w.heap.size≤gb354)) ?_;clear HB;intro HB BK354 GW354 GE354;clear hb hbox hg;have ⟨hcz15_0,hcz15_1,hfz15_0,hfz15_1⟩:=cz2_ BK354.out) | ((with_reducible refine gc_ 26 ?_);refine gl_ (some 6) Tryd.func26 #[.int .i64 a0_0] ?_;(with_reducible refine (impl_isNode.calls a0_0 true _ A2.out).mono ?_);rintro e w' ⟨rfl,⟨nd,rfl⟩⟩;refine ⟨_,rfl,?_⟩))
    (try (rw [drewN_self w14];generalize hq_:World.drewN w14 _=w14;have n0_:Aside0 (w14.heap[gb354]? = some (.cells #[.int .i64 a0_0,.slice A0_1 l0_1.length c0_1] 30 (0,0))):=⟨z41_ BK354.out⟩;have n1_:Aside0 (Below w.heap.size w w14):=⟨by rw [← hq_];exact (by repeat (first | (with_reducible first | exact HB.out | apply below_alloc | apply pw_below_drewN | apply below_drew1 | refine below_set ?_ GE354.out) | exact HB.out))⟩;clear BK354 HB hq_;have BK354:=n0_;have HB:=n1_;clear n0_ n1_))
    refine as2_ (blk_drew BK354.out) (below_drew1 HB.out) ?_
    clear BK354 HB
    intro BK354 HB
    refine start_ (n:=13) (S:=fun w'=>True) (ds:=[]) impl_RingRight.q0 (by kernel_rfl) rfl rfl trivial (fun hHeld=>?_);refine with_tabW impl_RingRight.tab4 impl_RingRight.bits4 (fun HT_ HW_=>?_)
    generalize w14.drew=w16 at BK354 HB hHeld ⊢
    refine pu_ 0 14 impl_RingRight.q1 HT_.out ?_
    refine o1_ 1 15 impl_RingRight.q2 HT_.out (fun K hK=>?_)
    refine gs_ Tryd.func42 #[.int .i64 (wrap64 ((l0_1.length:Int) / a0_0)),.int .i64 1,.int .i64 8] ?_
    with_reducible refine (impl_within.calls (wrap64 ((l0_1.length:Int) / a0_0)) 1 8 false _ A5.out).mono ?_
    rintro e w' ⟨rfl,⟨nd,rfl⟩⟩
    refine ⟨_,rfl,?_⟩
    refine hK.out _ _ trivial (fun hHeld=>?_)
    clear hK K
    refine nm_ 15 ?_
    refine pu_ 2 16 impl_RingRight.q3 HT_.out ?_
    refine pn_ 3 17 impl_RingRight.q4 HT_.out ?_
    refine pn_ 4 18 #[I,I,I,I,I,O,O,O,O,O,O,O,O] HT_.out ?_
    refine pn_ 5 19 #[I,I,I,I,I,I,O,O,O,O,O,O,O] HT_.out ?_
    refine pn_ 6 20 #[I,I,I,I,I,I,I,O,O,O,O,O,O] HT_.out ?_
    refine pn_ 7 21 impl_RingRight.q5 HT_.out ?_
    refine pn_ 8 22 impl_RingRight.q6 HT_.out ?_
    refine pn_ 9 23 impl_RingRight.q7 HT_.out ?_
    refine pn_ 10 24 impl_RingRight.q8 HT_.out ?_
    refine pu_ 11 25 impl_RingRight.q9 HT_.out ?_
    refine pu_ 12 2 impl_RingRight.q10 HT_.out ?_
    refine done_ (done_of HT_.out (by kernel_rfl)) ?_
    try go_wp2
    go_ret
    exact ⟨z10_,z4_ HB.out GE354.out⟩
 ·replace c3:=Bool.eq_false_iff.mpr c3
  subst c3
  have H1:(some false)=some r:=by rw [if_neg (show ¬ (false=true) by decide)] at H;exact H
  clear H
  have H:=H1
  clear H1
  obtain rfl:=Option.some.inj H
  go_enter Tryd.func25,Tryd.ntmps25
  go_wp2_with (first | ((with_reducible refine gd_ 1 ?_);refine be_ 1 #[.int .i64 a0_0,.slice A0_1 l0_1.length c0_1] 30 ?_;intro gb354 hg w17 hbox hb;refine as4_ (below_step (z6_ HB.out) hb) (hbox) ((z8_ HB.out:w.heap.size≤gb354)) ((z8_ HB.out:w.heap.size≤gb354)) ?_;clear HB;intro HB BK354 GW354 GE354;clear hb hbox hg;have ⟨hcz18_0,hcz18_1,hfz18_0,hfz18_1⟩:=cz2_ BK354.out) | ((with_reducible refine gc_ 26 ?_);refine gl_ (some 6) Tryd.func26 #[.int .i64 a0_0] ?_;(with_reducible refine (impl_isNode.calls a0_0 false _ A2.out).mono ?_);rintro e w' ⟨rfl,⟨nd,rfl⟩⟩;refine ⟨_,rfl,?_⟩))
  go_ret
  exact ⟨z10_,z4_ HB.out GE354.out⟩


/-! ### impl_isLong_1: function 56 -/
def impl_isLong_1.f (a0:ByteArray):Option (Bool):=some (decide ((a0.size:Int)>8000))
set_option maxHeartbeats 8000000 in
set_option maxRecDepth 100000 in
theorem impl_isLong_1.calls (a0:ByteArray) (r:Bool) (w:World) (h:impl_isLong_1.f a0=some r) :
  Calls Tryd.prog 56 #[.string a0] w fun e w'=>e = .returned (.bool r)∧Drawn0 w w':=by
 have H:(some (decide ((a0.size:Int)>8000)))=some r:=h
 clear h
 obtain rfl:=Option.some.inj H
 go_enter Tryd.func56,Tryd.ntmps56
 go_wp2
 go_ret
 exact ⟨z1_,z5_⟩


/-! ### slices_IndexFunc_string_string_impl_isLong_1: function 68 -/
def slices_IndexFunc_string_string_impl_isLong_1.l0:Nat→List ByteArray→Int→Int→Option (Int)
 | 0,_,_,_=>none
 | k+1,x0,x7,x8=>if x8<x7 then (if 0≤x8 then (if x8<(x0.length:Int) then ((impl_isLong_1.f (rdOf ByteArray.empty x0 x8)).bind fun t363=>(if t363=true then (some x8) else (slices_IndexFunc_string_string_impl_isLong_1.l0 k x0 x7 (wrap64 (x8+1))))) else (none)) else (none)) else (some (-1))
def slices_IndexFunc_string_string_impl_isLong_1.f (k:Nat) (l0:List ByteArray)  : Option (Int):=slices_IndexFunc_string_string_impl_isLong_1.l0 k l0 (l0.length:Int) 0
theorem slices_IndexFunc_string_string_impl_isLong_1.mono_l:∀ k,(∀ y0 y1 y2,LeO (slices_IndexFunc_string_string_impl_isLong_1.l0 k y0 y1 y2) (slices_IndexFunc_string_string_impl_isLong_1.l0 (k+1) y0 y1 y2))
 | 0=>fun _ _ _ r h=>by simp [slices_IndexFunc_string_string_impl_isLong_1.l0] at h
 | k+1=>by
  have ih0:=slices_IndexFunc_string_string_impl_isLong_1.mono_l k
  ·intro y0 y1 y2
   unfold slices_IndexFunc_string_string_impl_isLong_1.l0
   repeat' first
   | (with_reducible exact ih0 _ _ _)
   | (with_reducible exact LeO.refl _)
   | (with_reducible exact LeO.none _)
   | (with_reducible refine LeO.ite ?_ ?_)
   | (with_reducible refine LeO.bind ?_ (fun _=>?_))
   | exact ih0 _ _ _
   | exact LeO.none _
   | refine LeO.ite ?_ ?_
   | refine LeO.bind ?_ (fun _=>?_)
theorem slices_IndexFunc_string_string_impl_isLong_1.mono:∀ a0 k,LeO (slices_IndexFunc_string_string_impl_isLong_1.f k a0) (slices_IndexFunc_string_string_impl_isLong_1.f (k+1) a0):=by
 intro a0 k
 have ih0:=slices_IndexFunc_string_string_impl_isLong_1.mono_l k
 unfold slices_IndexFunc_string_string_impl_isLong_1.f
 repeat' first
   | (with_reducible exact ih0 _ _ _)
   | (with_reducible exact LeO.refl _)
   | (with_reducible exact LeO.none _)
   | (with_reducible refine LeO.ite ?_ ?_)
   | (with_reducible refine LeO.bind ?_ (fun _=>?_))
   | exact ih0 _ _ _
   | exact LeO.none _
   | refine LeO.ite ?_ ?_
   | refine LeO.bind ?_ (fun _=>?_)
set_option maxHeartbeats 8000000 in
set_option maxRecDepth 100000 in
theorem slices_IndexFunc_string_string_impl_isLong_1.calls (k:Nat) (A0:Option Addr) (c0:Nat) (l0:List ByteArray)  (r:Int) (w:World) (hr0:Kd.C Kd.string w A0 l0.length l0) (hc0:l0.length≤c0) (h:slices_IndexFunc_string_string_impl_isLong_1.f k l0=some r) :
  Calls Tryd.prog 68 #[.slice A0 l0.length c0,.func (.func 56) #[] #[]] w fun e w'=>e = .returned (.int .i64 r)∧Drawn0 w w':=by
 have HR0:=Aside0.mk hr0
 have HC0:=Aside0.mk hc0
 clear hr0 hc0
 have H:(slices_IndexFunc_string_string_impl_isLong_1.l0 k l0 (l0.length:Int) 0)=some r:=h
 clear h
 have H':=Aside0.mk H
 clear H
 go_enter Tryd.func68,Tryd.ntmps68
 go_wp2
 go_loopg [8] k (fun kq v8 w'=>∃ (x8_1:Int),v8 = .int .i64 x8_1∧Aside0 (slices_IndexFunc_string_string_impl_isLong_1.l0 kq l0 (l0.length:Int) x8_1=some r)∧Aside0 (kq≤k)∧Drawn0 w w')
 case atStart=>exact ⟨(0),(z1_),H',⟨Nat.le_refl _⟩,z5_⟩
 case round =>
  clear H'
  try clear p2
  obtain ⟨x8_1,rfl,HA,HK1,⟨m1,rfl⟩⟩:=hrel
  cases gk with
  | zero=>exact absurd HA.out (by simp [slices_IndexFunc_string_string_impl_isLong_1.l0])
  | succ k1 =>
   have H:=HA.out
   clear HA
   simp only [slices_IndexFunc_string_string_impl_isLong_1.l0] at H
   by_cases c3:x8_1<(l0.length:Int)
   ·rw [if_pos c3] at H
    have c3b0:decide (x8_1<(l0.length:Int))=true:=decide_eq_true c3
    clear c3
    by_cases c4:0≤x8_1
    ·rw [if_pos c4] at H
     have c4b0:decide (0≤x8_1)=true:=decide_eq_true c4
     clear c4
     by_cases c5:x8_1<(l0.length:Int)
     ·rw [if_pos c5] at H
      have c5b0:decide (x8_1<(l0.length:Int))=true:=decide_eq_true c5
      clear c5
      replace H:=Option.bind_eq_some_iff.mp H
      obtain ⟨t363,A60,H⟩:=H
      replace H:(if t363=true then (some x8_1) else (slices_IndexFunc_string_string_impl_isLong_1.l0 k1 l0 (l0.length:Int) (wrap64 (x8_1+1))))=some r:=H
      have A6:=Aside0.mk A60
      clear A60
      by_cases c7:t363=true
      ·subst c7
       have H1:(some x8_1)=some r:=by rw [if_pos rfl] at H;exact H
       clear H
       have H:=H1
       clear H1
       obtain rfl:=Option.some.inj H
       have p362:0≤(x8_1:Int):=of_decide_eq_true (z0_)
       have q362:x8_1<(l0.length:Int):=of_decide_eq_true (z0_)
       obtain ⟨ad362,e362,hx362_0⟩:=Kd.at_string HR0.out x8_1 p362 q362
       cases e362
       replace p362:=eq_true p362
       replace q362:=eq_true q362
       go_wp2_with (first | (go_at_call 56;(with_reducible refine (impl_isLong_1.calls (rdOf ByteArray.empty l0 x8_1) true _ A6.out).mono ?_);rintro e w' ⟨rfl,⟨nd,rfl⟩⟩))
       go_ret
       exact ⟨z1_,z5_⟩
      ·replace c7:=Bool.eq_false_iff.mpr c7
       subst c7
       have H1:(slices_IndexFunc_string_string_impl_isLong_1.l0 k1 l0 (l0.length:Int) (wrap64 (x8_1+1)))=some r:=by rw [if_neg (show ¬ (false=true) by decide)] at H;exact H
       clear H
       have H:=H1
       clear H1
       have H':=Aside0.mk H
       clear H
       have p362:0≤(x8_1:Int):=of_decide_eq_true (z0_)
       have q362:x8_1<(l0.length:Int):=of_decide_eq_true (z0_)
       obtain ⟨ad362,e362,hx362_0⟩:=Kd.at_string HR0.out x8_1 p362 q362
       cases e362
       replace p362:=eq_true p362
       replace q362:=eq_true q362
       go_wp2_with (first | (go_at_call 56;(with_reducible refine (impl_isLong_1.calls (rdOf ByteArray.empty l0 x8_1) false _ A6.out).mono ?_);rintro e w' ⟨rfl,⟨nd,rfl⟩⟩))
       go_roundg k1
       case measure=>have:=HK1.out;omega
       case rel=>exact ⟨(wrap64 (x8_1+1)),(z1_),H',⟨by have:=HK1.out;omega⟩,z5_⟩
     ·rw [if_neg c5] at H
      exact absurd H (by simp)
    ·rw [if_neg c4] at H
     exact absurd H (by simp)
   ·rw [if_neg c3] at H
    have c3b0:decide (x8_1<(l0.length:Int))=false:=decide_eq_false c3
    clear c3
    obtain rfl:=Option.some.inj H
    go_wp2
    go_ret
    exact ⟨z1_,z5_⟩


/-! ### slices_ContainsFunc_string_string_impl_isLong_1: function 55 -/
def slices_ContainsFunc_string_string_impl_isLong_1.f (k:Nat) (l0:List ByteArray)  : Option (Bool):=(slices_IndexFunc_string_string_impl_isLong_1.f k l0).bind fun t364=>(some (decide (t364≥0)))
theorem slices_ContainsFunc_string_string_impl_isLong_1.mono:∀ a0 k,LeO (slices_ContainsFunc_string_string_impl_isLong_1.f k a0) (slices_ContainsFunc_string_string_impl_isLong_1.f (k+1) a0):=by
 intro a0 k
 unfold slices_ContainsFunc_string_string_impl_isLong_1.f
 repeat' first
   | (with_reducible exact slices_IndexFunc_string_string_impl_isLong_1.mono _ _)
   | (with_reducible exact LeO.refl _)
   | (with_reducible exact LeO.none _)
   | (with_reducible refine LeO.ite ?_ ?_)
   | (with_reducible refine LeO.bind ?_ (fun _=>?_))
   | exact slices_IndexFunc_string_string_impl_isLong_1.mono _ _
   | exact LeO.none _
   | refine LeO.ite ?_ ?_
   | refine LeO.bind ?_ (fun _=>?_)
set_option maxHeartbeats 8000000 in
set_option maxRecDepth 100000 in
theorem slices_ContainsFunc_string_string_impl_isLong_1.calls (k:Nat) (A0:Option Addr) (c0:Nat) (l0:List ByteArray)  (r:Bool) (w:World) (hr0:Kd.C Kd.string w A0 l0.length l0) (hc0:l0.length≤c0) (h:slices_ContainsFunc_string_string_impl_isLong_1.f k l0=some r) :
  Calls Tryd.prog 55 #[.slice A0 l0.length c0,.func (.func 56) #[] #[]] w fun e w'=>e = .returned (.bool r)∧Drawn0 w w':=by
 have HR0:=Aside0.mk hr0
 have HC0:=Aside0.mk hc0
 clear hr0 hc0
 have H:((slices_IndexFunc_string_string_impl_isLong_1.f k l0).bind fun t364=>(some (decide (t364≥0))))=some r:=h
 clear h
 replace H:=Option.bind_eq_some_iff.mp H
 obtain ⟨t364,A30,H⟩:=H
 replace H:(some (decide (t364≥0)))=some r:=H
 have A3:=Aside0.mk A30
 clear A30
 obtain rfl:=Option.some.inj H
 go_enter Tryd.func55,Tryd.ntmps55
 go_wp2_with (first | ((with_reducible refine gc_ 68 ?_);refine gl_ (some 7) Tryd.func68 #[.slice A0 l0.length c0,.func (.func 56) #[] #[]] ?_;(with_reducible refine (slices_IndexFunc_string_string_impl_isLong_1.calls k _ _ l0  t364 _ ?s1 ?s2 A3.out).mono ?_);(case s1=>repeat (first | exact HR0.out | (with_reducible refine Kd.C_alloc ?_ _) | (with_reducible refine Kd.C_drewN ?_ _) | (with_reducible refine Kd.C_drew ?_)));(case s2=>exact HC0.out);rintro e w' ⟨rfl,⟨nd,rfl⟩⟩;refine ⟨_,rfl,?_⟩))
 go_ret
 exact ⟨z1_,z5_⟩


/-! ### impl_isLong: function 40 -/
def impl_isLong.f (k:Nat) (l0:List ByteArray):Option (Bool):=(slices_ContainsFunc_string_string_impl_isLong_1.f k l0).bind fun t365=>(some t365)
theorem impl_isLong.mono:∀ a0 k,LeO (impl_isLong.f k a0) (impl_isLong.f (k+1) a0):=by
 intro a0 k
 unfold impl_isLong.f
 repeat' first
   | (with_reducible exact slices_ContainsFunc_string_string_impl_isLong_1.mono _ _)
   | (with_reducible exact LeO.refl _)
   | (with_reducible exact LeO.none _)
   | (with_reducible refine LeO.ite ?_ ?_)
   | (with_reducible refine LeO.bind ?_ (fun _=>?_))
   | exact slices_ContainsFunc_string_string_impl_isLong_1.mono _ _
   | exact LeO.none _
   | refine LeO.ite ?_ ?_
   | refine LeO.bind ?_ (fun _=>?_)
set_option maxHeartbeats 8000000 in
set_option maxRecDepth 100000 in
theorem impl_isLong.calls (k:Nat) (A0:Option Addr) (c0:Nat) (l0:List ByteArray) (r:Bool) (w:World) (hr0:Kd.C Kd.string w A0 l0.length l0) (hc0:l0.length≤c0) (h:impl_isLong.f k l0=some r) :
  Calls Tryd.prog 40 #[.slice A0 l0.length c0] w fun e w'=>e = .returned (.bool r)∧Drawn0 w w':=by
 have HR0:=Aside0.mk hr0
 have HC0:=Aside0.mk hc0
 clear hr0 hc0
 have H:((slices_ContainsFunc_string_string_impl_isLong_1.f k l0).bind fun t365=>(some t365))=some r:=h
 clear h
 replace H:=Option.bind_eq_some_iff.mp H
 obtain ⟨t365,A20,H⟩:=H
 replace H:(some t365)=some r:=H
 have A2:=Aside0.mk A20
 clear A20
 obtain rfl:=Option.some.inj H
 go_enter Tryd.func40,Tryd.ntmps40
 go_wp2_with (first | ((with_reducible refine gc_ 55 ?_);refine gl_ (some 4) Tryd.func55 #[.slice A0 l0.length c0,.func (.func 56) #[] #[]] ?_;(with_reducible refine (slices_ContainsFunc_string_string_impl_isLong_1.calls k _ _ l0  t365 _ ?s1 ?s2 A2.out).mono ?_);(case s1=>repeat (first | exact HR0.out | (with_reducible refine Kd.C_alloc ?_ _) | (with_reducible refine Kd.C_drewN ?_ _) | (with_reducible refine Kd.C_drew ?_)));(case s2=>exact HC0.out);rintro e w' ⟨rfl,⟨nd,rfl⟩⟩;refine ⟨_,rfl,?_⟩))
 go_ret
 exact ⟨z1_,z5_⟩


/-! ### impl_size: function 57 -/
def impl_size.f (a0:ByteArray):Option (Int):=some (a0.size:Int)
set_option maxHeartbeats 8000000 in
set_option maxRecDepth 100000 in
theorem impl_size.calls (a0:ByteArray) (r:Int) (w:World) (h:impl_size.f a0=some r) :
  Calls Tryd.prog 57 #[.string a0] w fun e w'=>e = .returned (.int .i64 r)∧Drawn0 w w':=by
 have H:(some (a0.size:Int))=some r:=h
 clear h
 obtain rfl:=Option.some.inj H
 go_enter Tryd.func57,Tryd.ntmps57
 go_wp2
 go_ret
 exact ⟨z1_,z5_⟩


/-! ### impl_NameRight: function 41 -/
mutual
def impl_NameRight.j0:Nat→ByteArray→Bool→Option (Bool)
 | 0,_,_=>none
 | k+1,x0,x18=>if x18=true then (some false) else (impl_NameRight.l0 k x0 (x0.size:Int) 0)
def impl_NameRight.l0:Nat→ByteArray→Int→Int→Option (Bool)
 | 0,_,_,_=>none
 | k+1,x0,x20,x21=>if x21<x20 then (if 0≤x21 then (if x21<(x0.size:Int) then (if (bt x0 x21)≥97 then (if (bt x0 x21)≤122 then (impl_NameRight.l0 k x0 x20 (wrap64 (x21+1))) else (if (bt x0 x21)≥48 then (if (bt x0 x21)≤57 then (impl_NameRight.l0 k x0 x20 (wrap64 (x21+1))) else (if ((bt x0 x21)=95) then (impl_NameRight.l0 k x0 x20 (wrap64 (x21+1))) else (some false))) else (if ((bt x0 x21)=95) then (impl_NameRight.l0 k x0 x20 (wrap64 (x21+1))) else (some false)))) else (if (bt x0 x21)≥48 then (if (bt x0 x21)≤57 then (impl_NameRight.l0 k x0 x20 (wrap64 (x21+1))) else (if ((bt x0 x21)=95) then (impl_NameRight.l0 k x0 x20 (wrap64 (x21+1))) else (some false))) else (if ((bt x0 x21)=95) then (impl_NameRight.l0 k x0 x20 (wrap64 (x21+1))) else (some false)))) else (none)) else (none)) else (some true)
end
def impl_NameRight.f (k:Nat) (a0:ByteArray):Option (Bool):=(impl_size.f a0).bind fun t366=>((impl_within.f t366 1 20).bind fun t367=>(if t367=true then (if 0<(a0.size:Int) then (if (bt a0 0)<97 then (impl_NameRight.j0 k a0 true) else (impl_NameRight.j0 k a0 (decide ((bt a0 0)>122)))) else (none)) else (impl_NameRight.j0 k a0 true)))
theorem impl_NameRight.mono_l:∀ k,(∀ y0 y1,LeO (impl_NameRight.j0 k y0 y1) (impl_NameRight.j0 (k+1) y0 y1))∧(∀ y0 y1 y2,LeO (impl_NameRight.l0 k y0 y1 y2) (impl_NameRight.l0 (k+1) y0 y1 y2))
 | 0=>⟨fun _ _ r h=>by simp [impl_NameRight.j0] at h,fun _ _ _ r h=>by simp [impl_NameRight.l0] at h⟩
 | k+1=>by
  obtain ⟨ih0,ih1⟩:=impl_NameRight.mono_l k
  refine ⟨?_,?_⟩
  ·intro y0 y1
   unfold impl_NameRight.j0
   repeat' first
   | (with_reducible exact ih0 _ _)
   | (with_reducible exact ih1 _ _ _)
   | (with_reducible exact LeO.refl _)
   | (with_reducible exact LeO.none _)
   | (with_reducible refine LeO.ite ?_ ?_)
   | (with_reducible refine LeO.bind ?_ (fun _=>?_))
   | exact ih0 _ _
   | exact ih1 _ _ _
   | exact LeO.none _
   | refine LeO.ite ?_ ?_
   | refine LeO.bind ?_ (fun _=>?_)
  ·intro y0 y1 y2
   unfold impl_NameRight.l0
   repeat' first
   | (with_reducible exact ih0 _ _)
   | (with_reducible exact ih1 _ _ _)
   | (with_reducible exact LeO.refl _)
   | (with_reducible exact LeO.none _)
   | (with_reducible refine LeO.ite ?_ ?_)
   | (with_reducible refine LeO.bind ?_ (fun _=>?_))
   | exact ih0 _ _
   | exact ih1 _ _ _
   | exact LeO.none _
   | refine LeO.ite ?_ ?_
   | refine LeO.bind ?_ (fun _=>?_)
theorem impl_NameRight.mono:∀ a0 k,LeO (impl_NameRight.f k a0) (impl_NameRight.f (k+1) a0):=by
 intro a0 k
 obtain ⟨ih0,ih1⟩:=impl_NameRight.mono_l k
 unfold impl_NameRight.f
 repeat' first
   | (with_reducible exact ih0 _ _)
   | (with_reducible exact ih1 _ _ _)
   | (with_reducible exact LeO.refl _)
   | (with_reducible exact LeO.none _)
   | (with_reducible refine LeO.ite ?_ ?_)
   | (with_reducible refine LeO.bind ?_ (fun _=>?_))
   | exact ih0 _ _
   | exact ih1 _ _ _
   | exact LeO.none _
   | refine LeO.ite ?_ ?_
   | refine LeO.bind ?_ (fun _=>?_)
set_option maxHeartbeats 8000000 in
set_option maxRecDepth 100000 in
theorem impl_NameRight.calls (k:Nat) (a0:ByteArray) (r:Bool) (w:World) (h:impl_NameRight.f k a0=some r) :
  Calls Tryd.prog 41 #[.string a0] w fun e w'=>e = .returned (.bool r)∧Drawn0 w w':=by
 have H:((impl_size.f a0).bind fun t366=>((impl_within.f t366 1 20).bind fun t367=>(if t367=true then (if 0<(a0.size:Int) then (if (bt a0 0)<97 then (impl_NameRight.j0 k a0 true) else (impl_NameRight.j0 k a0 (decide ((bt a0 0)>122)))) else (none)) else (impl_NameRight.j0 k a0 true))))=some r:=h
 clear h
 have HC2:=Aside0.mk H
 clear H
 go_enter Tryd.func41,Tryd.ntmps41
 go_upto_region 1 with (fail)
 go_cut [18] (fun v18 wc=>∃ (kq:Nat) (x18_1:Bool),v18 = .bool x18_1∧Aside0 (impl_NameRight.j0 kq a0 x18_1=some r)∧Aside0 (kq≤k)∧Drawn0 w wc)
 case first =>
  have H:=HC2.out
  clear HC2
  replace H:=Option.bind_eq_some_iff.mp H
  obtain ⟨t366,A30,H⟩:=H
  replace H:((impl_within.f t366 1 20).bind fun t367=>(if t367=true then (if 0<(a0.size:Int) then (if (bt a0 0)<97 then (impl_NameRight.j0 k a0 true) else (impl_NameRight.j0 k a0 (decide ((bt a0 0)>122)))) else (none)) else (impl_NameRight.j0 k a0 true)))=some r:=H
  have A3:=Aside0.mk A30
  clear A30
  replace H:=Option.bind_eq_some_iff.mp H
  obtain ⟨t367,A40,H⟩:=H
  replace H:(if t367=true then (if 0<(a0.size:Int) then (if (bt a0 0)<97 then (impl_NameRight.j0 k a0 true) else (impl_NameRight.j0 k a0 (decide ((bt a0 0)>122)))) else (none)) else (impl_NameRight.j0 k a0 true))=some r:=H
  have A4:=Aside0.mk A40
  clear A40
  by_cases c5:t367=true
  ·subst c5
   have H1:(if 0<(a0.size:Int) then (if (bt a0 0)<97 then (impl_NameRight.j0 k a0 true) else (impl_NameRight.j0 k a0 (decide ((bt a0 0)>122)))) else (none))=some r:=by rw [if_pos rfl] at H;exact H
   clear H
   have H:=H1
   clear H1
   by_cases c6:0<(a0.size:Int)
   ·rw [if_pos c6] at H
    have c6b0:decide (0<(a0.size:Int))=true:=decide_eq_true c6
    have c6b1:decide (0<a0.size)=true:=decide_eq_true (by omega)
    clear c6
    (first | rw [c6b0] | (simp only [i64_w,i32_w];rw [c6b0]) | skip)
    by_cases c8:(bt a0 0)<97
    ·rw [if_pos c8] at H
     have c8b0:decide ((bt a0 0)<97)=true:=decide_eq_true c8
     clear c8
     have H':=Aside0.mk H
     clear H
     go_wp2_with (first | ((with_reducible refine gc_ 57 ?_);refine gl_ (some 6) Tryd.func57 #[.string a0] ?_;(with_reducible refine (impl_size.calls a0 t366 _ A3.out).mono ?_);rintro e w' ⟨rfl,⟨nd,rfl⟩⟩;refine ⟨_,rfl,?_⟩) | ((with_reducible refine gc_ 42 ?_);refine gl_ (some 7) Tryd.func42 #[.int .i64 t366,.int .i64 1,.int .i64 20] ?_;(with_reducible refine (impl_within.calls t366 1 20 true _ A4.out).mono ?_);rintro e w' ⟨rfl,⟨nd,rfl⟩⟩;refine ⟨_,rfl,?_⟩;have p7:0≤(0:Int):=(by omega);have q7:0<a0.size:=(z43_);have hx7:∀ h:0<a0.size,((a0[0]'h).toNat:Int)=bt a0 0:=bt_at a0 0;clear p7;have qi7:(0<(a0.size:Int))=True:=eq_true (of_decide_eq_true (z0_));replace q7:=eq_true q7))
     go_meet
     case rel=>exact ⟨_,(true),(z1_),H',⟨by first | omega | exact Nat.le_refl _⟩,z5_⟩
    ·rw [if_neg c8] at H
     have c8b0:decide ((bt a0 0)<97)=false:=decide_eq_false c8
     clear c8
     have H':=Aside0.mk H
     clear H
     go_wp2_with (first | ((with_reducible refine gc_ 57 ?_);refine gl_ (some 6) Tryd.func57 #[.string a0] ?_;(with_reducible refine (impl_size.calls a0 t366 _ A3.out).mono ?_);rintro e w' ⟨rfl,⟨nd,rfl⟩⟩;refine ⟨_,rfl,?_⟩) | ((with_reducible refine gc_ 42 ?_);refine gl_ (some 7) Tryd.func42 #[.int .i64 t366,.int .i64 1,.int .i64 20] ?_;(with_reducible refine (impl_within.calls t366 1 20 true _ A4.out).mono ?_);rintro e w' ⟨rfl,⟨nd,rfl⟩⟩;refine ⟨_,rfl,?_⟩;have p7:0≤(0:Int):=(by omega);have q7:0<a0.size:=(z43_);have hx7:∀ h:0<a0.size,((a0[0]'h).toNat:Int)=bt a0 0:=bt_at a0 0;clear p7;have qi7:(0<(a0.size:Int))=True:=eq_true (of_decide_eq_true (z0_));replace q7:=eq_true q7;have p9:0≤(0:Int):=(by omega);have q9:0<a0.size:=(z43_);have hx9:∀ h:0<a0.size,((a0[0]'h).toNat:Int)=bt a0 0:=bt_at a0 0;clear p9;have qi9:(0<(a0.size:Int))=True:=eq_true (of_decide_eq_true (z0_));replace q9:=eq_true q9))
     go_meet
     case rel=>exact ⟨_,(decide ((bt a0 0)>122)),(z1_),H',⟨by first | omega | exact Nat.le_refl _⟩,z5_⟩
   ·rw [if_neg c6] at H
    exact absurd H (by simp)
  ·replace c5:=Bool.eq_false_iff.mpr c5
   subst c5
   have H1:(impl_NameRight.j0 k a0 true)=some r:=by rw [if_neg (show ¬ (false=true) by decide)] at H;exact H
   clear H
   have H:=H1
   clear H1
   have H':=Aside0.mk H
   clear H
   go_wp2_with (first | ((with_reducible refine gc_ 57 ?_);refine gl_ (some 6) Tryd.func57 #[.string a0] ?_;(with_reducible refine (impl_size.calls a0 t366 _ A3.out).mono ?_);rintro e w' ⟨rfl,⟨nd,rfl⟩⟩;refine ⟨_,rfl,?_⟩) | ((with_reducible refine gc_ 42 ?_);refine gl_ (some 7) Tryd.func42 #[.int .i64 t366,.int .i64 1,.int .i64 20] ?_;(with_reducible refine (impl_within.calls t366 1 20 false _ A4.out).mono ?_);rintro e w' ⟨rfl,⟨nd,rfl⟩⟩;refine ⟨_,rfl,?_⟩))
   go_meet
   case rel=>exact ⟨_,(true),(z1_),H',⟨by first | omega | exact Nat.le_refl _⟩,z5_⟩
 case rest =>
  clear HC2
  try clear p2
  try clear c4
  try clear c5
  try clear c6
  try clear c6b0
  try clear c6b1
  try clear p7
  try clear q7
  try clear hx7
  try clear qi7
  try clear c8
  try clear c8b0
  try clear p9
  try clear q9
  try clear hx9
  try clear qi9
  try clear p7
  try clear p9
  try clear q7
  try clear q9
  obtain ⟨kq,x18_1,rfl,HA,HJ1,⟨mc1,rfl⟩⟩:=hcut
  cases kq with
  | zero=>exact absurd HA.out (by simp [impl_NameRight.j0])
  | succ kj1 =>
   have H:=HA.out
   clear HA
   simp only [impl_NameRight.j0] at H
   by_cases c10:x18_1=true
   ·subst c10
    have H1:(some false)=some r:=by rw [if_pos rfl] at H;exact H
    clear H
    have H:=H1
    clear H1
    obtain rfl:=Option.some.inj H
    go_wp2
    go_ret
    exact ⟨z1_,z5_⟩
   ·replace c10:=Bool.eq_false_iff.mpr c10
    subst c10
    have H1:(impl_NameRight.l0 kj1 a0 (a0.size:Int) 0)=some r:=by rw [if_neg (show ¬ (false=true) by decide)] at H;exact H
    clear H
    have H:=H1
    clear H1
    have H':=Aside0.mk H
    clear H
    go_wp2
    go_loopg [21] kj1 (fun kq v21 w'=>∃ (x21_2:Int),v21 = .int .i64 x21_2∧Aside0 (impl_NameRight.l0 kq a0 (a0.size:Int) x21_2=some r)∧Aside0 (kq≤kj1)∧Drawn0 w w')
    case atStart=>exact ⟨(0),(z1_),H',⟨Nat.le_refl _⟩,z5_⟩
    case round =>
     clear H'
     try clear c1
     try clear p2
     try clear c4
     try clear c5
     try clear c6
     try clear c6b0
     try clear c6b1
     try clear p7
     try clear q7
     try clear hx7
     try clear qi7
     try clear c8
     try clear c8b0
     try clear p9
     try clear q9
     try clear hx9
     try clear qi9
     try clear c10
     try clear p2
     try clear p7
     try clear p9
     try clear q7
     try clear q9
     obtain ⟨x21_2,rfl,HA,HK2,⟨m2,rfl⟩⟩:=hrel
     cases gk with
     | zero=>exact absurd HA.out (by simp [impl_NameRight.l0])
     | succ k2 =>
      have H:=HA.out
      clear HA
      simp only [impl_NameRight.l0] at H
      by_cases c11:x21_2<(a0.size:Int)
      ·rw [if_pos c11] at H
       have c11b0:decide (x21_2<(a0.size:Int))=true:=decide_eq_true c11
       clear c11
       by_cases c12:0≤x21_2
       ·rw [if_pos c12] at H
        have c12b0:decide (0≤x21_2)=true:=decide_eq_true c12
        clear c12
        by_cases c13:x21_2<(a0.size:Int)
        ·rw [if_pos c13] at H
         have c13b0:decide (x21_2<(a0.size:Int))=true:=decide_eq_true c13
         clear c13
         by_cases c15:(bt a0 x21_2)≥97
         ·rw [if_pos c15] at H
          have c15b0:decide (97≤(bt a0 x21_2))=true:=decide_eq_true c15
          clear c15
          by_cases c16:(bt a0 x21_2)≤122
          ·rw [if_pos c16] at H
           have c16b0:decide ((bt a0 x21_2)≤122)=true:=decide_eq_true c16
           clear c16
           have H':=Aside0.mk H
           clear H
           have p14:0≤(x21_2:Int):=of_decide_eq_true (z0_)
           have q14:x21_2<(a0.size:Int):=of_decide_eq_true (z0_)
           have hx14:=bt_at a0 x21_2
           replace p14:=eq_true p14
           replace q14:=eq_true q14
           go_wp2
           go_roundg k2
           case measure=>have:=HJ1.out;have:=HK2.out;omega
           case rel=>exact ⟨(wrap64 (x21_2+1)),(z1_),H',⟨z13_ HJ1.out HK2.out⟩,z5_⟩
          ·rw [if_neg c16] at H
           have c16b0:decide ((bt a0 x21_2)≤122)=false:=decide_eq_false c16
           clear c16
           by_cases c17:(bt a0 x21_2)≥48
           ·rw [if_pos c17] at H
            have c17b0:decide (48≤(bt a0 x21_2))=true:=decide_eq_true c17
            clear c17
            by_cases c18:(bt a0 x21_2)≤57
            ·rw [if_pos c18] at H
             have c18b0:decide ((bt a0 x21_2)≤57)=true:=decide_eq_true c18
             clear c18
             have H':=Aside0.mk H
             clear H
             have p14:0≤(x21_2:Int):=of_decide_eq_true (z0_)
             have q14:x21_2<(a0.size:Int):=of_decide_eq_true (z0_)
             have hx14:=bt_at a0 x21_2
             replace p14:=eq_true p14
             replace q14:=eq_true q14
             go_wp2
             go_roundg k2
             case measure=>have:=HJ1.out;have:=HK2.out;omega
             case rel=>exact ⟨(wrap64 (x21_2+1)),(z1_),H',⟨z13_ HJ1.out HK2.out⟩,z5_⟩
            ·rw [if_neg c18] at H
             have c18b0:decide ((bt a0 x21_2)≤57)=false:=decide_eq_false c18
             clear c18
             by_cases c19:((bt a0 x21_2)=95)
             ·rw [if_pos c19] at H
              have c19b0:((bt a0 x21_2) == 95)=true:=beq_iff_eq.mpr c19
              have c19b1:((bt a0 x21_2) != 95)=false:=bne_eq_false_iff_eq.mpr c19
              clear c19
              have H':=Aside0.mk H
              clear H
              have p14:0≤(x21_2:Int):=of_decide_eq_true (z0_)
              have q14:x21_2<(a0.size:Int):=of_decide_eq_true (z0_)
              have hx14:=bt_at a0 x21_2
              replace p14:=eq_true p14
              replace q14:=eq_true q14
              go_wp2
              go_roundg k2
              case measure=>have:=HJ1.out;have:=HK2.out;omega
              case rel=>exact ⟨(wrap64 (x21_2+1)),(z1_),H',⟨z13_ HJ1.out HK2.out⟩,z5_⟩
             ·rw [if_neg c19] at H
              have c19b0:((bt a0 x21_2) == 95)=false:=beq_eq_false_iff_ne.mpr c19
              have c19b1:((bt a0 x21_2) != 95)=true:=bne_iff_ne.mpr c19
              obtain rfl:=Option.some.inj H
              have p14:0≤(x21_2:Int):=of_decide_eq_true (z0_)
              have q14:x21_2<(a0.size:Int):=of_decide_eq_true (z0_)
              have hx14:=bt_at a0 x21_2
              replace p14:=eq_true p14
              replace q14:=eq_true q14
              go_wp2
              go_ret
              exact ⟨z1_,z5_⟩
           ·rw [if_neg c17] at H
            have c17b0:decide (48≤(bt a0 x21_2))=false:=decide_eq_false c17
            clear c17
            by_cases c20:((bt a0 x21_2)=95)
            ·rw [if_pos c20] at H
             have c20b0:((bt a0 x21_2) == 95)=true:=beq_iff_eq.mpr c20
             have c20b1:((bt a0 x21_2) != 95)=false:=bne_eq_false_iff_eq.mpr c20
             clear c20
             have H':=Aside0.mk H
             clear H
             have p14:0≤(x21_2:Int):=of_decide_eq_true (z0_)
             have q14:x21_2<(a0.size:Int):=of_decide_eq_true (z0_)
             have hx14:=bt_at a0 x21_2
             replace p14:=eq_true p14
             replace q14:=eq_true q14
             go_wp2
             go_roundg k2
             case measure=>have:=HJ1.out;have:=HK2.out;omega
             case rel=>exact ⟨(wrap64 (x21_2+1)),(z1_),H',⟨z13_ HJ1.out HK2.out⟩,z5_⟩
            ·rw [if_neg c20] at H
             have c20b0:((bt a0 x21_2) == 95)=false:=beq_eq_false_iff_ne.mpr c20
             have c20b1:((bt a0 x21_2) != 95)=true:=bne_iff_ne.mpr c20
             obtain rfl:=Option.some.inj H
             have p14:0≤(x21_2:Int):=of_decide_eq_true (z0_)
             have q14:x21_2<(a0.size:Int):=of_decide_eq_true (z0_)
             have hx14:=bt_at a0 x21_2
             replace p14:=eq_true p14
             replace q14:=eq_true q14
             go_wp2
             go_ret
             exact ⟨z1_,z5_⟩
         ·rw [if_neg c15] at H
          have c15b0:decide (97≤(bt a0 x21_2))=false:=decide_eq_false c15
          clear c15
          by_cases c21:(bt a0 x21_2)≥48
          ·rw [if_pos c21] at H
           have c21b0:decide (48≤(bt a0 x21_2))=true:=decide_eq_true c21
           clear c21
           by_cases c22:(bt a0 x21_2)≤57
           ·rw [if_pos c22] at H
            have c22b0:decide ((bt a0 x21_2)≤57)=true:=decide_eq_true c22
            clear c22
            have H':=Aside0.mk H
            clear H
            have p14:0≤(x21_2:Int):=of_decide_eq_true (z0_)
            have q14:x21_2<(a0.size:Int):=of_decide_eq_true (z0_)
            have hx14:=bt_at a0 x21_2
            replace p14:=eq_true p14
            replace q14:=eq_true q14
            go_wp2
            go_roundg k2
            case measure=>have:=HJ1.out;have:=HK2.out;omega
            case rel=>exact ⟨(wrap64 (x21_2+1)),(z1_),H',⟨z13_ HJ1.out HK2.out⟩,z5_⟩
           ·rw [if_neg c22] at H
            have c22b0:decide ((bt a0 x21_2)≤57)=false:=decide_eq_false c22
            clear c22
            by_cases c23:((bt a0 x21_2)=95)
            ·rw [if_pos c23] at H
             have c23b0:((bt a0 x21_2) == 95)=true:=beq_iff_eq.mpr c23
             have c23b1:((bt a0 x21_2) != 95)=false:=bne_eq_false_iff_eq.mpr c23
             clear c23
             have H':=Aside0.mk H
             clear H
             have p14:0≤(x21_2:Int):=of_decide_eq_true (z0_)
             have q14:x21_2<(a0.size:Int):=of_decide_eq_true (z0_)
             have hx14:=bt_at a0 x21_2
             replace p14:=eq_true p14
             replace q14:=eq_true q14
             go_wp2
             go_roundg k2
             case measure=>have:=HJ1.out;have:=HK2.out;omega
             case rel=>exact ⟨(wrap64 (x21_2+1)),(z1_),H',⟨z13_ HJ1.out HK2.out⟩,z5_⟩
            ·rw [if_neg c23] at H
             have c23b0:((bt a0 x21_2) == 95)=false:=beq_eq_false_iff_ne.mpr c23
             have c23b1:((bt a0 x21_2) != 95)=true:=bne_iff_ne.mpr c23
             obtain rfl:=Option.some.inj H
             have p14:0≤(x21_2:Int):=of_decide_eq_true (z0_)
             have q14:x21_2<(a0.size:Int):=of_decide_eq_true (z0_)
             have hx14:=bt_at a0 x21_2
             replace p14:=eq_true p14
             replace q14:=eq_true q14
             go_wp2
             go_ret
             exact ⟨z1_,z5_⟩
          ·rw [if_neg c21] at H
           have c21b0:decide (48≤(bt a0 x21_2))=false:=decide_eq_false c21
           clear c21
           by_cases c24:((bt a0 x21_2)=95)
           ·rw [if_pos c24] at H
            have c24b0:((bt a0 x21_2) == 95)=true:=beq_iff_eq.mpr c24
            have c24b1:((bt a0 x21_2) != 95)=false:=bne_eq_false_iff_eq.mpr c24
            clear c24
            have H':=Aside0.mk H
            clear H
            have p14:0≤(x21_2:Int):=of_decide_eq_true (z0_)
            have q14:x21_2<(a0.size:Int):=of_decide_eq_true (z0_)
            have hx14:=bt_at a0 x21_2
            replace p14:=eq_true p14
            replace q14:=eq_true q14
            go_wp2
            go_roundg k2
            case measure=>have:=HJ1.out;have:=HK2.out;omega
            case rel=>exact ⟨(wrap64 (x21_2+1)),(z1_),H',⟨z13_ HJ1.out HK2.out⟩,z5_⟩
           ·rw [if_neg c24] at H
            have c24b0:((bt a0 x21_2) == 95)=false:=beq_eq_false_iff_ne.mpr c24
            have c24b1:((bt a0 x21_2) != 95)=true:=bne_iff_ne.mpr c24
            obtain rfl:=Option.some.inj H
            have p14:0≤(x21_2:Int):=of_decide_eq_true (z0_)
            have q14:x21_2<(a0.size:Int):=of_decide_eq_true (z0_)
            have hx14:=bt_at a0 x21_2
            replace p14:=eq_true p14
            replace q14:=eq_true q14
            go_wp2
            go_ret
            exact ⟨z1_,z5_⟩
        ·rw [if_neg c13] at H
         exact absurd H (by simp)
       ·rw [if_neg c12] at H
        exact absurd H (by simp)
      ·rw [if_neg c11] at H
       have c11b0:decide (x21_2<(a0.size:Int))=false:=decide_eq_false c11
       clear c11
       obtain rfl:=Option.some.inj H
       go_wp2
       go_ret
       exact ⟨z1_,z5_⟩


/-! ### impl_isKeyed: function 24 -/
def impl_isKeyed.f (k:Nat) (a0_0:Int) (l0_1:List (S59)) (a1:ByteArray):Option (Bool):=(impl_isLong.f k (([a1]:List ByteArray))).bind fun t372=>(if t372=true then (some false) else ((impl_RingRight.f k a0_0 l0_1).bind fun t373=>(if t373=true then ((impl_NameRight.f k a1).bind fun t374=>(some t374)) else (some false))))
theorem impl_isKeyed.mono:∀ a0 a1 a2 k,LeO (impl_isKeyed.f k a0 a1 a2) (impl_isKeyed.f (k+1) a0 a1 a2):=by
 intro a0 a1 a2 k
 unfold impl_isKeyed.f
 repeat' first
   | (with_reducible exact impl_NameRight.mono _ _)
   | (with_reducible exact impl_RingRight.mono _ _ _)
   | (with_reducible exact impl_isLong.mono _ _)
   | (with_reducible exact LeO.refl _)
   | (with_reducible exact LeO.none _)
   | (with_reducible refine LeO.ite ?_ ?_)
   | (with_reducible refine LeO.bind ?_ (fun _=>?_))
   | exact impl_NameRight.mono _ _
   | exact impl_RingRight.mono _ _ _
   | exact impl_isLong.mono _ _
   | exact LeO.none _
   | refine LeO.ite ?_ ?_
   | refine LeO.bind ?_ (fun _=>?_)
set_option maxHeartbeats 8000000 in
set_option maxRecDepth 100000 in
theorem impl_isKeyed.calls (k:Nat) (a0_0:Int) (A0_1:Option Addr) (c0_1:Nat) (l0_1:List (S59)) (a1:ByteArray) (r:Bool) (w:World) (hr0_1:Kd.C k59 w A0_1 l0_1.length l0_1) (hc0_1:l0_1.length≤c0_1) (h:impl_isKeyed.f k a0_0 l0_1 a1=some r) :
  Calls Tryd.prog 24 #[.agg #[.int .i64 a0_0,.slice A0_1 l0_1.length c0_1],.string a1] w fun e w'=>e = .returned (.bool r)∧Below w.heap.size w w':=by
 have hu30:=Tryd.underlying30
 have HR0_1:=Aside0.mk hr0_1
 have HC0_1:=Aside0.mk hc0_1
 clear hr0_1 hc0_1
 have HB:=Aside0.mk (Below.refl w.heap.size w)
 have H:((impl_isLong.f k (([a1]:List ByteArray))).bind fun t372=>(if t372=true then (some false) else ((impl_RingRight.f k a0_0 l0_1).bind fun t373=>(if t373=true then ((impl_NameRight.f k a1).bind fun t374=>(some t374)) else (some false)))))=some r:=h
 clear h
 obtain ⟨y369,hy369⟩:∃ y_:List ByteArray,y_=(([a1]:List ByteArray)):=⟨_,rfl⟩
 replace H:((impl_isLong.f k y369).bind fun t372=>(if t372=true then (some false) else ((impl_RingRight.f k a0_0 l0_1).bind fun t373=>(if t373=true then ((impl_NameRight.f k a1).bind fun t374=>(some t374)) else (some false)))))=some r:=by first | (rw [hy369];with_reducible exact H) | (have H2_:=(Option.bind_some _ _).symm.trans H;rw [hy369];with_reducible exact H2_) | (have H2_:=(Option.bind_some _ _).symm.trans H;with_reducible exact H2_) | with_reducible exact H | (rw [hy369];exact H) | exact H
 have Ny369:=Aside0.mk hy369
 clear hy369
 replace H:=Option.bind_eq_some_iff.mp H
 obtain ⟨t372,A30,H⟩:=H
 replace H:(if t372=true then (some false) else ((impl_RingRight.f k a0_0 l0_1).bind fun t373=>(if t373=true then ((impl_NameRight.f k a1).bind fun t374=>(some t374)) else (some false))))=some r:=H
 have A3:=Aside0.mk A30
 clear A30
 by_cases c4:t372=true
 ·subst c4
  have H1:(some false)=some r:=by rw [if_pos rfl] at H;exact H
  clear H
  have H:=H1
  clear H1
  obtain rfl:=Option.some.inj H
  go_enter Tryd.func24,Tryd.ntmps24
  go_wp2_with (first | ((with_reducible refine gd_ 2 ?_);refine be_ 2 #[.int .i64 a0_0,.slice A0_1 l0_1.length c0_1] 30 ?_;intro gb368 hg w5 hbox hb;refine as4_ (below_step (z6_ HB.out) hb) (hbox) ((z8_ HB.out:w.heap.size≤gb368)) ((z8_ HB.out:w.heap.size≤gb368)) ?_;clear HB;intro HB BK368 GW368 GE368;clear hb hbox hg) | ((with_reducible refine gd_ 6 ?_);refine Kd.R_lit Kd.string _ 9 ?hg (N:=6) ?hd (xs:=([a1]:List ByteArray)) (inner:=[.string a1]) (ok:=fun _=>True) (okp:=fun _=>True) ?hr ?hp (fun _ hk=>hk) trivial (Below.refl _ _) (Nat.le_refl _) (by simp) ?_;(case hd=>rfl);(case hg=>rfl);(case hr=>first | (go_simp;done) | (go_simp;rfl));(case hp=>exact (Reps.one (show Kd.M Kd.string _ _ _ a1 [.string a1] from rfl) (Reps.none _ _)));intro v370 w6 ho7 hb hg_ hnew_;clear hg_ hnew_;(first | rw [← Ny369.out] at ho7 | (simp only [Int.reduceToNat] at ho7;rw [← Ny369.out] at ho7));refine as3_ (Kd.R_lower ho7 (below_size (z4_ HB.out GE368.out))) (blkB_ BK368.out hb) (below_step (z4_ HB.out GE368.out) hb) ?_;clear BK368 HB;intro HO371 BK368 HB;clear hb ho7;obtain ⟨Ao8,co8,eo8⟩:=Kd.R_slice HO371.out;subst eo8) | ((with_reducible refine gc_ 40 ?_);refine gl_ (some 7) Tryd.func40 #[.slice Ao8 y369.length co8] ?_;(with_reducible refine (impl_isLong.calls k _ _ y369 true _ ?s1 ?s2 A3.out).mono ?_);(case s1=>repeat (first | exact (Kd.R_reads' HO371.out).2.2 | (with_reducible refine Kd.C_alloc ?_ _) | (with_reducible refine Kd.C_drewN ?_ _) | (with_reducible refine Kd.C_drew ?_)));(case s2=>exact (Kd.R_reads' HO371.out).2.1);rintro e w' ⟨rfl,⟨nd,rfl⟩⟩;refine ⟨_,rfl,?_⟩))
  go_ret
  exact ⟨z10_,z4_ HB.out GE368.out⟩
 ·replace c4:=Bool.eq_false_iff.mpr c4
  subst c4
  have H1:((impl_RingRight.f k a0_0 l0_1).bind fun t373=>(if t373=true then ((impl_NameRight.f k a1).bind fun t374=>(some t374)) else (some false)))=some r:=by rw [if_neg (show ¬ (false=true) by decide)] at H;exact H
  clear H
  have H:=H1
  clear H1
  replace H:=Option.bind_eq_some_iff.mp H
  obtain ⟨t373,A90,H⟩:=H
  replace H:(if t373=true then ((impl_NameRight.f k a1).bind fun t374=>(some t374)) else (some false))=some r:=H
  have A9:=Aside0.mk A90
  clear A90
  by_cases c10:t373=true
  ·subst c10
   have H1:((impl_NameRight.f k a1).bind fun t374=>(some t374))=some r:=by rw [if_pos rfl] at H;exact H
   clear H
   have H:=H1
   clear H1
   replace H:=Option.bind_eq_some_iff.mp H
   obtain ⟨t374,A110,H⟩:=H
   replace H:(some t374)=some r:=H
   have A11:=Aside0.mk A110
   clear A110
   obtain rfl:=Option.some.inj H
   go_enter Tryd.func24,Tryd.ntmps24
   go_wp2_with (first | ((with_reducible refine gd_ 2 ?_);refine be_ 2 #[.int .i64 a0_0,.slice A0_1 l0_1.length c0_1] 30 ?_;intro gb368 hg w12 hbox hb;refine as4_ (below_step (z6_ HB.out) hb) (hbox) ((z8_ HB.out:w.heap.size≤gb368)) ((z8_ HB.out:w.heap.size≤gb368)) ?_;clear HB;intro HB BK368 GW368 GE368;clear hb hbox hg) | ((with_reducible refine gd_ 6 ?_);refine Kd.R_lit Kd.string _ 9 ?hg (N:=6) ?hd (xs:=([a1]:List ByteArray)) (inner:=[.string a1]) (ok:=fun _=>True) (okp:=fun _=>True) ?hr ?hp (fun _ hk=>hk) trivial (Below.refl _ _) (Nat.le_refl _) (by simp) ?_;(case hd=>rfl);(case hg=>rfl);(case hr=>first | (go_simp;done) | (go_simp;rfl));(case hp=>exact (Reps.one (show Kd.M Kd.string _ _ _ a1 [.string a1] from rfl) (Reps.none _ _)));intro v370 w13 ho14 hb hg_ hnew_;clear hg_ hnew_;(first | rw [← Ny369.out] at ho14 | (simp only [Int.reduceToNat] at ho14;rw [← Ny369.out] at ho14));refine as3_ (Kd.R_lower ho14 (below_size (z4_ HB.out GE368.out))) (blkB_ BK368.out hb) (below_step (z4_ HB.out GE368.out) hb) ?_;clear BK368 HB;intro HO371 BK368 HB;clear hb ho14;obtain ⟨Ao15,co15,eo15⟩:=Kd.R_slice HO371.out;subst eo15) | ((with_reducible refine gc_ 40 ?_);refine gl_ (some 7) Tryd.func40 #[.slice Ao15 y369.length co15] ?_;(with_reducible refine (impl_isLong.calls k _ _ y369 false _ ?s1 ?s2 A3.out).mono ?_);(case s1=>repeat (first | exact (Kd.R_reads' HO371.out).2.2 | (with_reducible refine Kd.C_alloc ?_ _) | (with_reducible refine Kd.C_drewN ?_ _) | (with_reducible refine Kd.C_drew ?_)));(case s2=>exact (Kd.R_reads' HO371.out).2.1);rintro e w' ⟨rfl,⟨nd,rfl⟩⟩;refine ⟨_,rfl,?_⟩;have ⟨hcz16_0,hcz16_1,hfz16_0,hfz16_1⟩:=cz2_ BK368.out) | (go_at_call 25;(with_reducible refine (impl_RingRight.calls k a0_0 _ _ l0_1 true _ ?s1 ?s2 A9.out).mono ?_);(case s1=>repeat (first | exact (Kd.C_below HR0_1.out (z4_ HB.out GE368.out)) | (with_reducible refine Kd.C_alloc ?_ _) | (with_reducible refine Kd.C_drewN ?_ _) | (with_reducible refine Kd.C_drew ?_)));(case s2=>exact HC0_1.out);rintro e w17 ⟨rfl,hb⟩;refine as3_ (Kd.R_below (z2_ HO371.out) hb) (blkB_ BK368.out hb) (below_step (z4_ HB.out GE368.out) hb) ?_;clear HO371 BK368 HB;intro HO371 BK368 HB;(try clear hb)) | (go_at_call 41;(with_reducible refine (impl_NameRight.calls k a1 t374 _ A11.out).mono ?_);rintro e w' ⟨rfl,⟨nd,rfl⟩⟩))
   go_ret
   exact ⟨z10_,z4_ HB.out GE368.out⟩
  ·replace c10:=Bool.eq_false_iff.mpr c10
   subst c10
   have H1:(some false)=some r:=by rw [if_neg (show ¬ (false=true) by decide)] at H;exact H
   clear H
   have H:=H1
   clear H1
   obtain rfl:=Option.some.inj H
   go_enter Tryd.func24,Tryd.ntmps24
   go_wp2_with (first | ((with_reducible refine gd_ 2 ?_);refine be_ 2 #[.int .i64 a0_0,.slice A0_1 l0_1.length c0_1] 30 ?_;intro gb368 hg w18 hbox hb;refine as4_ (below_step (z6_ HB.out) hb) (hbox) ((z8_ HB.out:w.heap.size≤gb368)) ((z8_ HB.out:w.heap.size≤gb368)) ?_;clear HB;intro HB BK368 GW368 GE368;clear hb hbox hg) | ((with_reducible refine gd_ 6 ?_);refine Kd.R_lit Kd.string _ 9 ?hg (N:=6) ?hd (xs:=([a1]:List ByteArray)) (inner:=[.string a1]) (ok:=fun _=>True) (okp:=fun _=>True) ?hr ?hp (fun _ hk=>hk) trivial (Below.refl _ _) (Nat.le_refl _) (by simp) ?_;(case hd=>rfl);(case hg=>rfl);(case hr=>first | (go_simp;done) | (go_simp;rfl));(case hp=>exact (Reps.one (show Kd.M Kd.string _ _ _ a1 [.string a1] from rfl) (Reps.none _ _)));intro v370 w19 ho20 hb hg_ hnew_;clear hg_ hnew_;(first | rw [← Ny369.out] at ho20 | (simp only [Int.reduceToNat] at ho20;rw [← Ny369.out] at ho20));refine as3_ (Kd.R_lower ho20 (below_size (z4_ HB.out GE368.out))) (blkB_ BK368.out hb) (below_step (z4_ HB.out GE368.out) hb) ?_;clear BK368 HB;intro HO371 BK368 HB;clear hb ho20;obtain ⟨Ao21,co21,eo21⟩:=Kd.R_slice HO371.out;subst eo21) | ((with_reducible refine gc_ 40 ?_);refine gl_ (some 7) Tryd.func40 #[.slice Ao21 y369.length co21] ?_;(with_reducible refine (impl_isLong.calls k _ _ y369 false _ ?s1 ?s2 A3.out).mono ?_);(case s1=>repeat (first | exact (Kd.R_reads' HO371.out).2.2 | (with_reducible refine Kd.C_alloc ?_ _) | (with_reducible refine Kd.C_drewN ?_ _) | (with_reducible refine Kd.C_drew ?_)));(case s2=>exact (Kd.R_reads' HO371.out).2.1);rintro e w' ⟨rfl,⟨nd,rfl⟩⟩;refine ⟨_,rfl,?_⟩;have ⟨hcz22_0,hcz22_1,hfz22_0,hfz22_1⟩:=cz2_ BK368.out) | (go_at_call 25;(with_reducible refine (impl_RingRight.calls k a0_0 _ _ l0_1 false _ ?s1 ?s2 A9.out).mono ?_);(case s1=>repeat (first | exact (Kd.C_below HR0_1.out (z4_ HB.out GE368.out)) | (with_reducible refine Kd.C_alloc ?_ _) | (with_reducible refine Kd.C_drewN ?_ _) | (with_reducible refine Kd.C_drew ?_)));(case s2=>exact HC0_1.out);rintro e w23 ⟨rfl,hb⟩;refine as3_ (Kd.R_below (z2_ HO371.out) hb) (blkB_ BK368.out hb) (below_step (z4_ HB.out GE368.out) hb) ?_;clear HO371 BK368 HB;intro HO371 BK368 HB;(try clear hb)))
   go_ret
   exact ⟨z10_,z4_ HB.out GE368.out⟩


/-! ### impl_isMany_int64: function 32 -/
def impl_isMany_int64.f (l0:List Int):Option (Bool):=some (decide ((l0.length:Int)>400))
set_option maxHeartbeats 8000000 in
set_option maxRecDepth 100000 in
theorem impl_isMany_int64.calls (A0:Option Addr) (c0:Nat) (l0:List Int) (r:Bool) (w:World) (hr0:Kd.C (Kd.int .i64) w A0 l0.length l0) (hc0:l0.length≤c0) (h:impl_isMany_int64.f l0=some r) :
  Calls Tryd.prog 32 #[.slice A0 l0.length c0] w fun e w'=>e = .returned (.bool r)∧Drawn0 w w':=by
 have HR0:=Aside0.mk hr0
 have HC0:=Aside0.mk hc0
 clear hr0 hc0
 have H:(some (decide ((l0.length:Int)>400)))=some r:=h
 clear h
 obtain rfl:=Option.some.inj H
 go_enter Tryd.func32,Tryd.ntmps32
 go_wp2
 go_ret
 exact ⟨z1_,z5_⟩


/-! ### impl_isRising: function 33 -/
mutual
def impl_isRising.l0:Nat→List Int→Int→List Int→Int→Int→Option (Bool)
 | 0,_,_,_,_,_=>none
 | k+1,x0,x1,x7,x8,x9=>if x9<x8 then (if 0≤x9 then (if x9<(x7.length:Int) then ((impl_within.f (rd x7 x9) 1 x1).bind fun t376=>(if t376=true then (if x9>0 then (if 0≤(wrap64 (x9-1)) then (if (wrap64 (x9-1))<(x0.length:Int) then (impl_isRising.j1 k x0 x1 x7 x8 x9 (decide ((rd x0 (wrap64 (x9-1)))≥(rd x7 x9)))) else (none)) else (none)) else (impl_isRising.j1 k x0 x1 x7 x8 x9 false)) else (impl_isRising.j1 k x0 x1 x7 x8 x9 true))) else (none)) else (none)) else (some true)
def impl_isRising.j1:Nat→List Int→Int→List Int→Int→Int→Bool→Option (Bool)
 | 0,_,_,_,_,_,_=>none
 | k+1,x0,x1,x7,x8,x9,x30=>if x30=true then (some false) else (impl_isRising.l0 k x0 x1 x7 x8 (wrap64 (x9+1)))
end
def impl_isRising.f (k:Nat) (l0:List Int) (a1:Int):Option (Bool):=impl_isRising.l0 k l0 a1 l0 (l0.length:Int) 0
theorem impl_isRising.mono_l:∀ k,(∀ y0 y1 y2 y3 y4,LeO (impl_isRising.l0 k y0 y1 y2 y3 y4) (impl_isRising.l0 (k+1) y0 y1 y2 y3 y4))∧(∀ y0 y1 y2 y3 y4 y5,LeO (impl_isRising.j1 k y0 y1 y2 y3 y4 y5) (impl_isRising.j1 (k+1) y0 y1 y2 y3 y4 y5))
 | 0=>⟨fun _ _ _ _ _ r h=>by simp [impl_isRising.l0] at h,fun _ _ _ _ _ _ r h=>by simp [impl_isRising.j1] at h⟩
 | k+1=>by
  obtain ⟨ih0,ih1⟩:=impl_isRising.mono_l k
  refine ⟨?_,?_⟩
  ·intro y0 y1 y2 y3 y4
   unfold impl_isRising.l0
   repeat' first
   | (with_reducible exact ih0 _ _ _ _ _)
   | (with_reducible exact ih1 _ _ _ _ _ _)
   | (with_reducible exact LeO.refl _)
   | (with_reducible exact LeO.none _)
   | (with_reducible refine LeO.ite ?_ ?_)
   | (with_reducible refine LeO.bind ?_ (fun _=>?_))
   | exact ih0 _ _ _ _ _
   | exact ih1 _ _ _ _ _ _
   | exact LeO.none _
   | refine LeO.ite ?_ ?_
   | refine LeO.bind ?_ (fun _=>?_)
  ·intro y0 y1 y2 y3 y4 y5
   unfold impl_isRising.j1
   repeat' first
   | (with_reducible exact ih0 _ _ _ _ _)
   | (with_reducible exact ih1 _ _ _ _ _ _)
   | (with_reducible exact LeO.refl _)
   | (with_reducible exact LeO.none _)
   | (with_reducible refine LeO.ite ?_ ?_)
   | (with_reducible refine LeO.bind ?_ (fun _=>?_))
   | exact ih0 _ _ _ _ _
   | exact ih1 _ _ _ _ _ _
   | exact LeO.none _
   | refine LeO.ite ?_ ?_
   | refine LeO.bind ?_ (fun _=>?_)
theorem impl_isRising.mono:∀ a0 a1 k,LeO (impl_isRising.f k a0 a1) (impl_isRising.f (k+1) a0 a1):=by
 intro a0 a1 k
 obtain ⟨ih0,ih1⟩:=impl_isRising.mono_l k
 unfold impl_isRising.f
 repeat' first
   | (with_reducible exact ih0 _ _ _ _ _)
   | (with_reducible exact ih1 _ _ _ _ _ _)
   | (with_reducible exact LeO.refl _)
   | (with_reducible exact LeO.none _)
   | (with_reducible refine LeO.ite ?_ ?_)
   | (with_reducible refine LeO.bind ?_ (fun _=>?_))
   | exact ih0 _ _ _ _ _
   | exact ih1 _ _ _ _ _ _
   | exact LeO.none _
   | refine LeO.ite ?_ ?_
   | refine LeO.bind ?_ (fun _=>?_)
set_option maxHeartbeats 8000000 in
set_option maxRecDepth 100000 in
theorem impl_isRising.calls (k:Nat) (A0:Option Addr) (c0:Nat) (l0:List Int) (a1:Int) (r:Bool) (w:World) (hr0:Kd.C (Kd.int .i64) w A0 l0.length l0) (hc0:l0.length≤c0) (h:impl_isRising.f k l0 a1=some r) :
  Calls Tryd.prog 33 #[.slice A0 l0.length c0,.int .i64 a1] w fun e w'=>e = .returned (.bool r)∧Drawn0 w w':=by
 have HR0:=Aside0.mk hr0
 have HC0:=Aside0.mk hc0
 clear hr0 hc0
 have H:(impl_isRising.l0 k l0 a1 l0 (l0.length:Int) 0)=some r:=h
 clear h
 have H':=Aside0.mk H
 clear H
 go_enter Tryd.func33,Tryd.ntmps33
 go_wp2
 go_loopg [9] k (fun kq v9 w'=>∃ (x9_1:Int),v9 = .int .i64 x9_1∧Aside0 (impl_isRising.l0 kq l0 a1 l0 (l0.length:Int) x9_1=some r)∧Aside0 (kq≤k)∧Drawn0 w w')
 case atStart=>exact ⟨(0),(z1_),H',⟨Nat.le_refl _⟩,z5_⟩
 case round =>
  clear H'
  try clear p2
  obtain ⟨x9_1,rfl,HA,HK1,⟨m1,rfl⟩⟩:=hrel
  cases gk with
  | zero=>exact absurd HA.out (by simp [impl_isRising.l0])
  | succ k1 =>
   have H:=HA.out
   clear HA
   simp only [impl_isRising.l0] at H
   by_cases c3:x9_1<(l0.length:Int)
   ·rw [if_pos c3] at H
    have c3b0:decide (x9_1<(l0.length:Int))=true:=decide_eq_true c3
    clear c3
    by_cases c4:0≤x9_1
    ·rw [if_pos c4] at H
     have c4b0:decide (0≤x9_1)=true:=decide_eq_true c4
     clear c4
     by_cases c5:x9_1<(l0.length:Int)
     ·rw [if_pos c5] at H
      have c5b0:decide (x9_1<(l0.length:Int))=true:=decide_eq_true c5
      clear c5
      have HC6:=Aside0.mk H
      clear H
      have p375:0≤(x9_1:Int):=of_decide_eq_true (z0_)
      have q375:x9_1<(l0.length:Int):=of_decide_eq_true (z0_)
      obtain ⟨ad375,e375,hx375_0⟩:=Kd.at_int HR0.out x9_1 p375 q375
      cases e375
      replace p375:=eq_true p375
      replace q375:=eq_true q375
      go_upto_region 4 with (fail)
      go_cut [30] (fun v30 wc=>∃ (kq:Nat) (x30_5:Bool),v30 = .bool x30_5∧Aside0 (impl_isRising.j1 kq l0 a1 l0 (l0.length:Int) x9_1 x30_5=some r)∧Aside0 (kq≤k1)∧Drawn0 w wc)
      case first =>
       have H:=HC6.out
       clear HC6
       replace H:=Option.bind_eq_some_iff.mp H
       obtain ⟨t376,A70,H⟩:=H
       replace H:(if t376=true then (if x9_1>0 then (if 0≤(wrap64 (x9_1-1)) then (if (wrap64 (x9_1-1))<(l0.length:Int) then (impl_isRising.j1 k1 l0 a1 l0 (l0.length:Int) x9_1 (decide ((rd l0 (wrap64 (x9_1-1)))≥(rd l0 x9_1)))) else (none)) else (none)) else (impl_isRising.j1 k1 l0 a1 l0 (l0.length:Int) x9_1 false)) else (impl_isRising.j1 k1 l0 a1 l0 (l0.length:Int) x9_1 true))=some r:=H
       have A7:=Aside0.mk A70
       clear A70
       by_cases c8:t376=true
       ·subst c8
        have H1:(if x9_1>0 then (if 0≤(wrap64 (x9_1-1)) then (if (wrap64 (x9_1-1))<(l0.length:Int) then (impl_isRising.j1 k1 l0 a1 l0 (l0.length:Int) x9_1 (decide ((rd l0 (wrap64 (x9_1-1)))≥(rd l0 x9_1)))) else (none)) else (none)) else (impl_isRising.j1 k1 l0 a1 l0 (l0.length:Int) x9_1 false))=some r:=by rw [if_pos rfl] at H;exact H
        clear H
        have H:=H1
        clear H1
        by_cases c9:x9_1>0
        ·rw [if_pos c9] at H
         have c9b0:decide (0<x9_1)=true:=decide_eq_true c9
         clear c9
         (first | rw [c9b0] | (simp only [i64_w,i32_w];rw [c9b0]) | skip)
         obtain ⟨ji10,hji10⟩:∃ j_:Int,(wrap64 (x9_1-1))=j_:=⟨_,rfl⟩
         replace H:(if 0≤(ji10) then (if (ji10)<(l0.length:Int) then (impl_isRising.j1 k1 l0 a1 l0 (l0.length:Int) x9_1 (decide ((rd l0 (ji10))≥(rd l0 x9_1)))) else (none)) else (none))=some r:=by first | (rw [hji10] at H;exact H) | (simp only [hji10] at H ⊢;exact H)
         (try rw [hji10] at A7)
         have hji10w:(IntKind.i64.wrap (x9_1-1))=ji10:=(i64_w _).trans hji10
         by_cases c11:0≤(ji10)
         ·rw [if_pos c11] at H
          have c11b0:decide (0≤(ji10))=true:=decide_eq_true c11
          clear c11
          by_cases c12:(ji10)<(l0.length:Int)
          ·rw [if_pos c12] at H
           have c12b0:decide ((ji10)<(l0.length:Int))=true:=decide_eq_true c12
           clear c12
           have H':=Aside0.mk H
           clear H
           go_wp2_with (first | ((with_reducible refine gc_ 42 ?_);refine gl_ (some 16) Tryd.func42 #[.int .i64 (rd l0 x9_1),.int .i64 1,.int .i64 a1] ?_;(with_reducible refine (impl_within.calls (rd l0 x9_1) 1 a1 true _ A7.out).mono ?_);rintro e w' ⟨rfl,⟨nd,rfl⟩⟩;refine ⟨_,rfl,?_⟩;have p377:0≤((ji10):Int):=of_decide_eq_true (z0_);have q377:(ji10)<(l0.length:Int):=of_decide_eq_true (z0_);obtain ⟨ad377,e377,hx377_0⟩:=Kd.at_int HR0.out (ji10) p377 q377;obtain rfl:ad375=ad377:=(by injection e377);replace p377:=eq_true p377;replace q377:=eq_true q377))
           go_meet
           case rel=>exact ⟨_,(decide ((rd l0 (ji10))≥(rd l0 x9_1))),(by first | rfl | (simp;done) | (simp only [← hji10] <;> (first | rfl | simp)) | (simp [*];done)),H',⟨z15_ HK1.out⟩,z5_⟩
          ·rw [if_neg c12] at H
           exact absurd H (by simp)
         ·rw [if_neg c11] at H
          exact absurd H (by simp)
        ·rw [if_neg c9] at H
         have c9b0:decide (0<x9_1)=false:=decide_eq_false c9
         clear c9
         (first | rw [c9b0] | (simp only [i64_w,i32_w];rw [c9b0]) | skip)
         have H':=Aside0.mk H
         clear H
         go_wp2_with (first | ((with_reducible refine gc_ 42 ?_);refine gl_ (some 16) Tryd.func42 #[.int .i64 (rd l0 x9_1),.int .i64 1,.int .i64 a1] ?_;(with_reducible refine (impl_within.calls (rd l0 x9_1) 1 a1 true _ A7.out).mono ?_);rintro e w' ⟨rfl,⟨nd,rfl⟩⟩;refine ⟨_,rfl,?_⟩))
         go_meet
         case rel=>exact ⟨_,(false),(z1_),H',⟨z15_ HK1.out⟩,z5_⟩
       ·replace c8:=Bool.eq_false_iff.mpr c8
        subst c8
        have H1:(impl_isRising.j1 k1 l0 a1 l0 (l0.length:Int) x9_1 true)=some r:=by rw [if_neg (show ¬ (false=true) by decide)] at H;exact H
        clear H
        have H:=H1
        clear H1
        have H':=Aside0.mk H
        clear H
        go_wp2_with (first | ((with_reducible refine gc_ 42 ?_);refine gl_ (some 16) Tryd.func42 #[.int .i64 (rd l0 x9_1),.int .i64 1,.int .i64 a1] ?_;(with_reducible refine (impl_within.calls (rd l0 x9_1) 1 a1 false _ A7.out).mono ?_);rintro e w' ⟨rfl,⟨nd,rfl⟩⟩;refine ⟨_,rfl,?_⟩))
        go_meet
        case rel=>exact ⟨_,(true),(z1_),H',⟨z15_ HK1.out⟩,z5_⟩
      case rest =>
       clear HC6
       try clear c1
       try clear p2
       try clear c3
       try clear c3b0
       try clear p3
       try clear q3
       try clear hx3
       try clear c4
       try clear c4b0
       try clear c5
       try clear c5b0
       try clear p6
       try clear c8
       try clear c9
       try clear c9b0
       try clear c11
       try clear c11b0
       try clear c12
       try clear c12b0
       try clear hx375_0
       try clear hx377_0
       try clear p2
       try clear p375
       try clear p377
       try clear q375
       try clear q377
       obtain ⟨kq,x30_5,rfl,HA,HJ5,⟨mc5,rfl⟩⟩:=hcut
       cases kq with
       | zero=>exact absurd HA.out (by simp [impl_isRising.j1])
       | succ kj5 =>
        have H:=HA.out
        clear HA
        simp only [impl_isRising.j1] at H
        by_cases c13:x30_5=true
        ·subst c13
         have H1:(some false)=some r:=by rw [if_pos rfl] at H;exact H
         clear H
         have H:=H1
         clear H1
         obtain rfl:=Option.some.inj H
         go_wp2
         go_ret
         exact ⟨z1_,z5_⟩
        ·replace c13:=Bool.eq_false_iff.mpr c13
         subst c13
         have H1:(impl_isRising.l0 kj5 l0 a1 l0 (l0.length:Int) (wrap64 (x9_1+1)))=some r:=by rw [if_neg (show ¬ (false=true) by decide)] at H;exact H
         clear H
         have H:=H1
         clear H1
         have H':=Aside0.mk H
         clear H
         go_wp2
         go_roundg kj5
         case measure=>have:=HK1.out;have:=HJ5.out;omega
         case rel=>exact ⟨(wrap64 (x9_1+1)),(z1_),H',⟨z13_ HK1.out HJ5.out⟩,z5_⟩
     ·rw [if_neg c5] at H
      exact absurd H (by simp)
    ·rw [if_neg c4] at H
     exact absurd H (by simp)
   ·rw [if_neg c3] at H
    have c3b0:decide (x9_1<(l0.length:Int))=false:=decide_eq_false c3
    clear c3
    obtain rfl:=Option.some.inj H
    go_wp2
    go_ret
    exact ⟨z1_,z5_⟩


/-! ### slices_Clone_int64_int64: function 47 -/
def slices_Clone_int64_int64.f (l0:List Int):Option (List Int):=(some (([]:List Int):List Int)).bind fun y378=>(if y378.length+l0.length<17592186044416 then (some (y378 ++ l0)) else (none))
set_option maxHeartbeats 8000000 in
set_option maxRecDepth 100000 in
theorem slices_Clone_int64_int64.calls (A0:Option Addr) (c0:Nat) (l0:List Int) (r:List Int) (w:World) (hr0:Kd.C (Kd.int .i64) w A0 l0.length l0) (hc0:l0.length≤c0) (h:slices_Clone_int64_int64.f l0=some r) :
  Calls Tryd.prog 47 #[.slice A0 l0.length c0] w fun e w'=>∃ v0_:Value,e = .returned (v0_)∧Kd.R (Kd.int .i64) 2 w' w.heap.size (fun _=>True) v0_ r∧Below w.heap.size w w':=by
 have q_:∀ (w:World) (a:Option Addr) (n c n' c':Nat),(binOp .eql 26 (.slice a n c) (.slice none n' c')).run Tryd.prog w = .ok (.bool a.isNone) w:=fun w a n c n' c'=>Lib.run_eql_slice_nil w _ _ a n c n' c' Tryd.underlying26
 by_cases hA0_:A0=none
 ·subst hA0_
  obtain rfl:l0=[]:=by
   cases l0 with
   | nil=>rfl
   | cons a_ t_=>obtain ⟨ad_,c_,e_,_⟩:=Kd.C_get hr0 a_ 0 (by decide) (by simp);cases e_
  obtain rfl:([]:List Int)=r:=by simpa [slices_Clone_int64_int64.f] using h
  clear h hr0
  go_enter Tryd.func47,Tryd.ntmps47
  go_wp2
  go_ret
  exact ⟨.slice none 0 0,rfl,Kd.R_nil _ _ _ _ _,Below.refl _ _⟩
 obtain ⟨A0,rfl⟩:=Option.ne_none_iff_exists'.1 hA0_
 clear hA0_
 have HR0:=Aside0.mk hr0
 have HC0:=Aside0.mk hc0
 clear hr0 hc0
 have HB:=Aside0.mk (Below.refl w.heap.size w)
 have H:((some (([]:List Int):List Int)).bind fun y378=>(if y378.length+l0.length<17592186044416 then (some (y378 ++ l0)) else (none)))=some r:=h
 clear h
 obtain ⟨y378,hy378⟩:∃ y_:List Int,y_=(([]:List Int)):=⟨_,rfl⟩
 replace H:(if y378.length+l0.length<17592186044416 then (some (y378 ++ l0)) else (none))=some r:=by first | (rw [hy378];with_reducible exact H) | (have H2_:=(Option.bind_some _ _).symm.trans H;rw [hy378];with_reducible exact H2_) | (have H2_:=(Option.bind_some _ _).symm.trans H;with_reducible exact H2_) | with_reducible exact H | (rw [hy378];exact H) | exact H
 have Ny378:=Aside0.mk hy378
 clear hy378
 by_cases c2:y378.length+l0.length<17592186044416
 ·rw [if_pos c2] at H
  have LMc2:=Aside0.mk c2
  clear c2
  obtain ⟨y381,hy381⟩:∃ y_:List Int,y_=(y378 ++ l0):=⟨_,rfl⟩
  replace H:(some y381)=some r:=by first | (rw [hy381];with_reducible exact H) | (have H2_:=(Option.bind_some _ _).symm.trans H;rw [hy381];with_reducible exact H2_) | (have H2_:=(Option.bind_some _ _).symm.trans H;with_reducible exact H2_) | with_reducible exact H | (rw [hy381];exact H) | exact H
  have Ny381:=Aside0.mk hy381
  clear hy381
  obtain rfl:=Option.some.inj H
  go_enter Tryd.func47,Tryd.ntmps47
  go_wp2_with (first | ((with_reducible refine gd_ 5 ?_);refine Kd.R_lit (Kd.int .i64) _ 2 ?hg (N:=5) ?hd (xs:=([]:List Int)) (inner:=[]) (ok:=fun _=>True) (okp:=fun _=>True) ?hr ?hp (fun _ hk=>hk) trivial (Below.refl _ _) (Nat.le_refl _) (by simp) ?_;(case hd=>rfl);(case hg=>rfl);(case hr=>first | (go_simp;done) | (go_simp;rfl));(case hp=>exact (Reps.none _ _));intro v379 w3 ho4 hb hg_ hnew_;clear hg_ hnew_;(first | rw [← Ny378.out] at ho4 | (simp only [Int.reduceToNat] at ho4;rw [← Ny378.out] at ho4));refine as2_ (Kd.R_lower ho4 (below_size (z6_ HB.out))) (below_step (z6_ HB.out) hb) ?_;clear HB;intro HO380 HB;clear hb ho4) | ((with_reducible refine gate_builtin (b:=.append) (xs:=#[.tmp 5,.tmp 6]) rfl ?_);at_builtin;refine Kd.R_append_rows (Kd.int .i64) (w0:=w) w.heap.size rfl (.tmp 5) (.tmp 6) 26 2 (.int .i64 0) 8 rfl Tryd.underlying26 info2 rfl (by decide) (by omega) v379 y378 l0 _ _ _ (fun _=>True) (fun _=>False) rfl rfl ?aO ?aR (fun _ _ h=>h) (fun _ h=>h.elim) ?aF ?aB ?aS ?aL ?_;(case aR=>repeat (first | exact (Kd.C_below HR0.out HB.out) | (with_reducible refine Kd.C_alloc ?_ _) | (with_reducible refine Kd.C_drewN ?_ _) | (with_reducible refine Kd.C_drew ?_)));(case aB=>exact (z6_ HB.out));(case aF=>exact (fun _ _=>trivial));(case aO=>exact (z2_ HO380.out));(case aS=>exact (below_size (z6_ HB.out)));(case aL=>have:=LMc2.out;omega);intro v382 w5 ho hb hg hat;rw [← Ny381.out] at ho;refine as2_ (hb) (ho) ?_;clear HB HO380;intro HB HO383;clear ho hb hg hat))
  go_ret
  exact ⟨_,z10_,z2_ HO383.out,z6_ HB.out⟩
 ·rw [if_neg c2] at H
  exact absurd H (by simp)


/-! ### slices_Index_int64_int64: function 65 -/
def slices_Index_int64_int64.l0:Nat→List Int→Int→Int→Int→Option (Int)
 | 0,_,_,_,_=>none
 | k+1,x0,x1,x7,x8=>if x8<x7 then (if 0≤x8 then (if x8<(x0.length:Int) then (if x1=(rd x0 x8) then (some x8) else (slices_Index_int64_int64.l0 k x0 x1 x7 (wrap64 (x8+1)))) else (none)) else (none)) else (some (-1))
def slices_Index_int64_int64.f (k:Nat) (l0:List Int) (a1:Int):Option (Int):=slices_Index_int64_int64.l0 k l0 a1 (l0.length:Int) 0
theorem slices_Index_int64_int64.mono_l:∀ k,(∀ y0 y1 y2 y3,LeO (slices_Index_int64_int64.l0 k y0 y1 y2 y3) (slices_Index_int64_int64.l0 (k+1) y0 y1 y2 y3))
 | 0=>fun _ _ _ _ r h=>by simp [slices_Index_int64_int64.l0] at h
 | k+1=>by
  have ih0:=slices_Index_int64_int64.mono_l k
  ·intro y0 y1 y2 y3
   unfold slices_Index_int64_int64.l0
   repeat' first
   | (with_reducible exact ih0 _ _ _ _)
   | (with_reducible exact LeO.refl _)
   | (with_reducible exact LeO.none _)
   | (with_reducible refine LeO.ite ?_ ?_)
   | (with_reducible refine LeO.bind ?_ (fun _=>?_))
   | exact ih0 _ _ _ _
   | exact LeO.none _
   | refine LeO.ite ?_ ?_
   | refine LeO.bind ?_ (fun _=>?_)
theorem slices_Index_int64_int64.mono:∀ a0 a1 k,LeO (slices_Index_int64_int64.f k a0 a1) (slices_Index_int64_int64.f (k+1) a0 a1):=by
 intro a0 a1 k
 have ih0:=slices_Index_int64_int64.mono_l k
 unfold slices_Index_int64_int64.f
 repeat' first
   | (with_reducible exact ih0 _ _ _ _)
   | (with_reducible exact LeO.refl _)
   | (with_reducible exact LeO.none _)
   | (with_reducible refine LeO.ite ?_ ?_)
   | (with_reducible refine LeO.bind ?_ (fun _=>?_))
   | exact ih0 _ _ _ _
   | exact LeO.none _
   | refine LeO.ite ?_ ?_
   | refine LeO.bind ?_ (fun _=>?_)
set_option maxHeartbeats 8000000 in
set_option maxRecDepth 100000 in
theorem slices_Index_int64_int64.calls (k:Nat) (A0:Option Addr) (c0:Nat) (l0:List Int) (a1:Int) (r:Int) (w:World) (hr0:Kd.C (Kd.int .i64) w A0 l0.length l0) (hc0:l0.length≤c0) (h:slices_Index_int64_int64.f k l0 a1=some r) :
  Calls Tryd.prog 65 #[.slice A0 l0.length c0,.int .i64 a1] w fun e w'=>e = .returned (.int .i64 r)∧Drawn0 w w':=by
 have HR0:=Aside0.mk hr0
 have HC0:=Aside0.mk hc0
 clear hr0 hc0
 have H:(slices_Index_int64_int64.l0 k l0 a1 (l0.length:Int) 0)=some r:=h
 clear h
 have H':=Aside0.mk H
 clear H
 go_enter Tryd.func65,Tryd.ntmps65
 go_wp2
 go_loopg [8] k (fun kq v8 w'=>∃ (x8_1:Int),v8 = .int .i64 x8_1∧Aside0 (slices_Index_int64_int64.l0 kq l0 a1 (l0.length:Int) x8_1=some r)∧Aside0 (kq≤k)∧Drawn0 w w')
 case atStart=>exact ⟨(0),(z1_),H',⟨Nat.le_refl _⟩,z5_⟩
 case round =>
  clear H'
  try clear p2
  obtain ⟨x8_1,rfl,HA,HK1,⟨m1,rfl⟩⟩:=hrel
  cases gk with
  | zero=>exact absurd HA.out (by simp [slices_Index_int64_int64.l0])
  | succ k1 =>
   have H:=HA.out
   clear HA
   simp only [slices_Index_int64_int64.l0] at H
   by_cases c3:x8_1<(l0.length:Int)
   ·rw [if_pos c3] at H
    have c3b0:decide (x8_1<(l0.length:Int))=true:=decide_eq_true c3
    clear c3
    by_cases c4:0≤x8_1
    ·rw [if_pos c4] at H
     have c4b0:decide (0≤x8_1)=true:=decide_eq_true c4
     clear c4
     by_cases c5:x8_1<(l0.length:Int)
     ·rw [if_pos c5] at H
      have c5b0:decide (x8_1<(l0.length:Int))=true:=decide_eq_true c5
      clear c5
      by_cases c6:a1=(rd l0 x8_1)
      ·rw [if_pos c6] at H
       have c6b0:(a1 == (rd l0 x8_1))=true:=beq_iff_eq.mpr c6
       have c6b1:(a1 != (rd l0 x8_1))=false:=bne_eq_false_iff_eq.mpr c6
       clear c6
       obtain rfl:=Option.some.inj H
       have p384:0≤(x8_1:Int):=of_decide_eq_true (z0_)
       have q384:x8_1<(l0.length:Int):=of_decide_eq_true (z0_)
       obtain ⟨ad384,e384,hx384_0⟩:=Kd.at_int HR0.out x8_1 p384 q384
       cases e384
       replace p384:=eq_true p384
       replace q384:=eq_true q384
       go_wp2
       go_ret
       exact ⟨z1_,z5_⟩
      ·rw [if_neg c6] at H
       have c6b0:(a1 == (rd l0 x8_1))=false:=beq_eq_false_iff_ne.mpr c6
       have c6b1:(a1 != (rd l0 x8_1))=true:=bne_iff_ne.mpr c6
       have H':=Aside0.mk H
       clear H
       have p384:0≤(x8_1:Int):=of_decide_eq_true (z0_)
       have q384:x8_1<(l0.length:Int):=of_decide_eq_true (z0_)
       obtain ⟨ad384,e384,hx384_0⟩:=Kd.at_int HR0.out x8_1 p384 q384
       cases e384
       replace p384:=eq_true p384
       replace q384:=eq_true q384
       go_wp2
       go_roundg k1
       case measure=>have:=HK1.out;omega
       case rel=>exact ⟨(wrap64 (x8_1+1)),(z1_),H',⟨by have:=HK1.out;omega⟩,z5_⟩
     ·rw [if_neg c5] at H
      exact absurd H (by simp)
    ·rw [if_neg c4] at H
     exact absurd H (by simp)
   ·rw [if_neg c3] at H
    have c3b0:decide (x8_1<(l0.length:Int))=false:=decide_eq_false c3
    clear c3
    obtain rfl:=Option.some.inj H
    go_wp2
    go_ret
    exact ⟨z1_,z5_⟩


/-! ### slices_Contains_int64_int64: function 49 -/
def slices_Contains_int64_int64.f (k:Nat) (l0:List Int) (a1:Int):Option (Bool):=(slices_Index_int64_int64.f k l0 a1).bind fun t385=>(some (decide (t385≥0)))
theorem slices_Contains_int64_int64.mono:∀ a0 a1 k,LeO (slices_Contains_int64_int64.f k a0 a1) (slices_Contains_int64_int64.f (k+1) a0 a1):=by
 intro a0 a1 k
 unfold slices_Contains_int64_int64.f
 repeat' first
   | (with_reducible exact slices_Index_int64_int64.mono _ _ _)
   | (with_reducible exact LeO.refl _)
   | (with_reducible exact LeO.none _)
   | (with_reducible refine LeO.ite ?_ ?_)
   | (with_reducible refine LeO.bind ?_ (fun _=>?_))
   | exact slices_Index_int64_int64.mono _ _ _
   | exact LeO.none _
   | refine LeO.ite ?_ ?_
   | refine LeO.bind ?_ (fun _=>?_)
set_option maxHeartbeats 8000000 in
set_option maxRecDepth 100000 in
theorem slices_Contains_int64_int64.calls (k:Nat) (A0:Option Addr) (c0:Nat) (l0:List Int) (a1:Int) (r:Bool) (w:World) (hr0:Kd.C (Kd.int .i64) w A0 l0.length l0) (hc0:l0.length≤c0) (h:slices_Contains_int64_int64.f k l0 a1=some r) :
  Calls Tryd.prog 49 #[.slice A0 l0.length c0,.int .i64 a1] w fun e w'=>e = .returned (.bool r)∧Drawn0 w w':=by
 have HR0:=Aside0.mk hr0
 have HC0:=Aside0.mk hc0
 clear hr0 hc0
 have H:((slices_Index_int64_int64.f k l0 a1).bind fun t385=>(some (decide (t385≥0))))=some r:=h
 clear h
 replace H:=Option.bind_eq_some_iff.mp H
 obtain ⟨t385,A30,H⟩:=H
 replace H:(some (decide (t385≥0)))=some r:=H
 have A3:=Aside0.mk A30
 clear A30
 obtain rfl:=Option.some.inj H
 go_enter Tryd.func49,Tryd.ntmps49
 go_wp2_with (first | ((with_reducible refine gc_ 65 ?_);refine gl_ (some 7) Tryd.func65 #[.slice A0 l0.length c0,.int .i64 a1] ?_;(with_reducible refine (slices_Index_int64_int64.calls k _ _ l0 a1 t385 _ ?s1 ?s2 A3.out).mono ?_);(case s1=>repeat (first | exact HR0.out | (with_reducible refine Kd.C_alloc ?_ _) | (with_reducible refine Kd.C_drewN ?_ _) | (with_reducible refine Kd.C_drew ?_)));(case s2=>exact HC0.out);rintro e w' ⟨rfl,⟨nd,rfl⟩⟩;refine ⟨_,rfl,?_⟩))
 go_ret
 exact ⟨z1_,z5_⟩


/-! ### impl_order_1_cap: function 67 -/
def impl_order_1_cap.f (a0_0:Int) (a0_1:Int) (a1_0:Int):Option (Bool):=some (decide (a0_0≥a1_0))
set_option maxHeartbeats 8000000 in
set_option maxRecDepth 100000 in
theorem impl_order_1_cap.calls (a0_0:Int) (a0_1:Int) (gb1:Nat) (a1_0:Int) (r:Bool) (w:World) (hk1:w.heap[gb1]? = some (.cells #[.int .i64 a1_0] 2 (0,0))) (h:impl_order_1_cap.f a0_0 a0_1 a1_0=some r) :
  Calls Tryd.prog 67 #[.agg #[.int .i64 a0_0,.int .i64 a0_1],.pointer (some ⟨gb1,0,none⟩)] w fun e w'=>e = .returned (.bool r)∧Below w.heap.size w w':=by
 have hu59:=Tryd.underlying59
 have BK61:=Aside0.mk hk1
 clear hk1
 have HB:=Aside0.mk (Below.refl w.heap.size w)
 have H:(some (decide (a0_0≥a1_0)))=some r:=h
 clear h
 obtain rfl:=Option.some.inj H
 go_enter Tryd.func67,Tryd.ntmps67
 go_wp2_with (first | ((with_reducible refine gd_ 2 ?_);refine be_ 2 #[.int .i64 a0_0,.int .i64 a0_1] 59 ?_;intro gb386 hg w3 hbox hb;refine as7_ (blkB_ BK61.out hb) (below_step (by repeat (first | (with_reducible first | exact HB.out | apply below_alloc | apply pw_below_drewN | apply below_drew1 | refine below_set ?_ GE61.out) | exact HB.out)) hb) (hbox) ((by rw [hg];exact (below_size (by repeat (first | (with_reducible first | exact HB.out | apply below_alloc | apply pw_below_drewN | apply below_drew1 | refine below_set ?_ GE61.out) | exact HB.out))):w.heap.size≤gb386)) ((by rw [hg];exact (below_size (by repeat (first | (with_reducible first | exact HB.out | apply below_alloc | apply pw_below_drewN | apply below_drew1 | refine below_set ?_ GE61.out) | exact HB.out))):w.heap.size≤gb386)) (neL_ BK61.out hg) (neG_ BK61.out hg) ?_;clear BK61 HB;intro BK61 HB BK386 GW386 GE386 NB61_386 NB386_61;clear hb hbox hg;have hnb4:=NB386_61.out;have hnc4:=NB61_386.out;have ⟨hcz5_0,hcz5_1,hfz5_0,hfz5_1⟩:=cz2_ BK386.out;have ⟨hcz6_0,hfz6_0⟩:=cz1_ BK61.out))
 go_ret
 exact ⟨z10_,by repeat (first | (with_reducible first | exact HB.out | apply below_alloc | apply pw_below_drewN | apply below_drew1 | refine below_set ?_ GE61.out | refine below_set ?_ GE386.out) | exact HB.out)⟩


/-! ### slices_IndexFunc_impl_Token_impl_Token_impl_order_1: function 66 -/
def slices_IndexFunc_impl_Token_impl_Token_impl_order_1.l0:Nat→List (S59)→Int→Int→Int→Option (Int)
 | 0,_,_,_,_=>none
 | k+1,x0,x7,x8,x62000=>if x8<x7 then (if 0≤x8 then (if x8<(x0.length:Int) then ((impl_order_1_cap.f ((rd_T59 x0 x8).f0) ((rd_T59 x0 x8).f1) x62000).bind fun t388=>(if t388=true then (some x8) else (slices_IndexFunc_impl_Token_impl_Token_impl_order_1.l0 k x0 x7 (wrap64 (x8+1)) x62000))) else (none)) else (none)) else (some (-1))
def slices_IndexFunc_impl_Token_impl_Token_impl_order_1.f (k:Nat) (l0:List (S59)) (a1_0:Int):Option (Int):=slices_IndexFunc_impl_Token_impl_Token_impl_order_1.l0 k l0 (l0.length:Int) 0 a1_0
theorem slices_IndexFunc_impl_Token_impl_Token_impl_order_1.mono_l:∀ k,(∀ y0 y1 y2 y3,LeO (slices_IndexFunc_impl_Token_impl_Token_impl_order_1.l0 k y0 y1 y2 y3) (slices_IndexFunc_impl_Token_impl_Token_impl_order_1.l0 (k+1) y0 y1 y2 y3))
 | 0=>fun _ _ _ _ r h=>by simp [slices_IndexFunc_impl_Token_impl_Token_impl_order_1.l0] at h
 | k+1=>by
  have ih0:=slices_IndexFunc_impl_Token_impl_Token_impl_order_1.mono_l k
  ·intro y0 y1 y2 y3
   unfold slices_IndexFunc_impl_Token_impl_Token_impl_order_1.l0
   repeat' first
   | (with_reducible exact ih0 _ _ _ _)
   | (with_reducible exact LeO.refl _)
   | (with_reducible exact LeO.none _)
   | (with_reducible refine LeO.ite ?_ ?_)
   | (with_reducible refine LeO.bind ?_ (fun _=>?_))
   | exact ih0 _ _ _ _
   | exact LeO.none _
   | refine LeO.ite ?_ ?_
   | refine LeO.bind ?_ (fun _=>?_)
theorem slices_IndexFunc_impl_Token_impl_Token_impl_order_1.mono:∀ a0 a1 k,LeO (slices_IndexFunc_impl_Token_impl_Token_impl_order_1.f k a0 a1) (slices_IndexFunc_impl_Token_impl_Token_impl_order_1.f (k+1) a0 a1):=by
 intro a0 a1 k
 have ih0:=slices_IndexFunc_impl_Token_impl_Token_impl_order_1.mono_l k
 unfold slices_IndexFunc_impl_Token_impl_Token_impl_order_1.f
 repeat' first
   | (with_reducible exact ih0 _ _ _ _)
   | (with_reducible exact LeO.refl _)
   | (with_reducible exact LeO.none _)
   | (with_reducible refine LeO.ite ?_ ?_)
   | (with_reducible refine LeO.bind ?_ (fun _=>?_))
   | exact ih0 _ _ _ _
   | exact LeO.none _
   | refine LeO.ite ?_ ?_
   | refine LeO.bind ?_ (fun _=>?_)
set_option maxHeartbeats 8000000 in
set_option maxRecDepth 100000 in
theorem slices_IndexFunc_impl_Token_impl_Token_impl_order_1.calls (k:Nat) (A0:Option Addr) (c0:Nat) (l0:List (S59)) (gb1:Nat) (a1_0:Int) (r:Int) (w:World) (hr0:Kd.C k59 w A0 l0.length l0) (hc0:l0.length≤c0) (hk1:w.heap[gb1]? = some (.cells #[.int .i64 a1_0] 2 (0,0))) (h:slices_IndexFunc_impl_Token_impl_Token_impl_order_1.f k l0 a1_0=some r) :
  Calls Tryd.prog 66 #[.slice A0 l0.length c0,.func (.func 67) #[] #[.pointer (some ⟨gb1,0,none⟩)]] w fun e w'=>e = .returned (.int .i64 r)∧Below w.heap.size w w':=by
 have hu59:=Tryd.underlying59
 have HR0:=Aside0.mk hr0
 have HC0:=Aside0.mk hc0
 clear hr0 hc0
 have BK61:=Aside0.mk hk1
 clear hk1
 have HB:=Aside0.mk (Below.refl w.heap.size w)
 have H:(slices_IndexFunc_impl_Token_impl_Token_impl_order_1.l0 k l0 (l0.length:Int) 0 a1_0)=some r:=h
 clear h
 have H':=Aside0.mk H
 clear H
 go_enter Tryd.func66,Tryd.ntmps66
 go_wp2
 go_loopg [8] k (fun kq v8 w'=>∃ (x8_1:Int),v8 = .int .i64 x8_1∧Aside0 (slices_IndexFunc_impl_Token_impl_Token_impl_order_1.l0 kq l0 (l0.length:Int) x8_1 a1_0=some r)∧Aside0 (kq≤k)∧Aside0 (w'.heap[gb1]? = some (.cells #[.int .i64 a1_0] 2 (0,0)))∧Aside0 (Below w.heap.size w w'))
 case atStart=>exact ⟨(0),(z1_),H',⟨Nat.le_refl _⟩,⟨z3_ BK61.out⟩,⟨by repeat (first | (with_reducible first | exact HB.out | apply below_alloc | apply pw_below_drewN | apply below_drew1 | refine below_set ?_ GE61.out) | exact HB.out)⟩⟩
 case round =>
  clear H'
  try clear p2
  obtain ⟨x8_1,rfl,HA,HK1,BK61,HB⟩:=hrel
  cases gk with
  | zero=>exact absurd HA.out (by simp [slices_IndexFunc_impl_Token_impl_Token_impl_order_1.l0])
  | succ k1 =>
   have H:=HA.out
   clear HA
   simp only [slices_IndexFunc_impl_Token_impl_Token_impl_order_1.l0] at H
   by_cases c3:x8_1<(l0.length:Int)
   ·rw [if_pos c3] at H
    have c3b0:decide (x8_1<(l0.length:Int))=true:=decide_eq_true c3
    clear c3
    by_cases c4:0≤x8_1
    ·rw [if_pos c4] at H
     have c4b0:decide (0≤x8_1)=true:=decide_eq_true c4
     clear c4
     by_cases c5:x8_1<(l0.length:Int)
     ·rw [if_pos c5] at H
      have c5b0:decide (x8_1<(l0.length:Int))=true:=decide_eq_true c5
      clear c5
      replace H:=Option.bind_eq_some_iff.mp H
      obtain ⟨t388,A60,H⟩:=H
      replace H:(if t388=true then (some x8_1) else (slices_IndexFunc_impl_Token_impl_Token_impl_order_1.l0 k1 l0 (l0.length:Int) (wrap64 (x8_1+1)) a1_0))=some r:=H
      have A6:=Aside0.mk A60
      clear A60
      by_cases c7:t388=true
      ·subst c7
       have H1:(some x8_1)=some r:=by rw [if_pos rfl] at H;exact H
       clear H
       have H:=H1
       clear H1
       obtain rfl:=Option.some.inj H
       have p387:0≤(x8_1:Int):=of_decide_eq_true (z0_)
       have q387:x8_1<(l0.length:Int):=of_decide_eq_true (z0_)
       obtain ⟨ad387,e387,hx387_0,hx387_1⟩:=at_T59 HR0.out x8_1 p387 q387
       cases e387
       replace hx387_0:=(HB.out.cell (World.block_lt_of_cell? w _ hx387_0)).trans hx387_0
       replace hx387_1:=(HB.out.cell (World.block_lt_of_cell? w _ hx387_1)).trans hx387_1
       replace p387:=eq_true p387
       replace q387:=eq_true q387
       go_wp2_with (first | (go_at_call 67;(with_reducible refine (impl_order_1_cap.calls ((rd_T59 l0 x8_1).f0) ((rd_T59 l0 x8_1).f1) gb1 a1_0 true _ ?s1 A6.out).mono ?_);(case s1=>(with_reducible repeat (first | refine blk_drewN ?_ _ | refine blk_drew ?_ | refine blk_alloc ?_ _));exact BK61.out);rintro e w8 ⟨rfl,hb⟩;refine as2_ (blkB_ BK61.out hb) (below_step (by repeat (first | (with_reducible first | exact HB.out | apply below_alloc | apply pw_below_drewN | apply below_drew1 | refine below_set ?_ GE61.out) | exact HB.out)) hb) ?_;clear BK61 HB;intro BK61 HB;(try clear hb)))
       go_ret
       exact ⟨z10_,by repeat (first | (with_reducible first | exact HB.out | apply below_alloc | apply pw_below_drewN | apply below_drew1 | refine below_set ?_ GE61.out) | exact HB.out)⟩
      ·replace c7:=Bool.eq_false_iff.mpr c7
       subst c7
       have H1:(slices_IndexFunc_impl_Token_impl_Token_impl_order_1.l0 k1 l0 (l0.length:Int) (wrap64 (x8_1+1)) a1_0)=some r:=by rw [if_neg (show ¬ (false=true) by decide)] at H;exact H
       clear H
       have H:=H1
       clear H1
       have H':=Aside0.mk H
       clear H
       have p387:0≤(x8_1:Int):=of_decide_eq_true (z0_)
       have q387:x8_1<(l0.length:Int):=of_decide_eq_true (z0_)
       obtain ⟨ad387,e387,hx387_0,hx387_1⟩:=at_T59 HR0.out x8_1 p387 q387
       cases e387
       replace hx387_0:=(HB.out.cell (World.block_lt_of_cell? w _ hx387_0)).trans hx387_0
       replace hx387_1:=(HB.out.cell (World.block_lt_of_cell? w _ hx387_1)).trans hx387_1
       replace p387:=eq_true p387
       replace q387:=eq_true q387
       go_wp2_with (first | (go_at_call 67;(with_reducible refine (impl_order_1_cap.calls ((rd_T59 l0 x8_1).f0) ((rd_T59 l0 x8_1).f1) gb1 a1_0 false _ ?s1 A6.out).mono ?_);(case s1=>(with_reducible repeat (first | refine blk_drewN ?_ _ | refine blk_drew ?_ | refine blk_alloc ?_ _));exact BK61.out);rintro e w9 ⟨rfl,hb⟩;refine as2_ (blkB_ BK61.out hb) (below_step (by repeat (first | (with_reducible first | exact HB.out | apply below_alloc | apply pw_below_drewN | apply below_drew1 | refine below_set ?_ GE61.out) | exact HB.out)) hb) ?_;clear BK61 HB;intro BK61 HB;(try clear hb)))
       go_roundg k1
       case measure=>have:=HK1.out;omega
       case rel=>exact ⟨(wrap64 (x8_1+1)),(z1_),H',⟨by have:=HK1.out;omega⟩,⟨z3_ BK61.out⟩,⟨by repeat (first | (with_reducible first | exact HB.out | apply below_alloc | apply pw_below_drewN | apply below_drew1 | refine below_set ?_ GE61.out) | exact HB.out)⟩⟩
     ·rw [if_neg c5] at H
      exact absurd H (by simp)
    ·rw [if_neg c4] at H
     exact absurd H (by simp)
   ·rw [if_neg c3] at H
    have c3b0:decide (x8_1<(l0.length:Int))=false:=decide_eq_false c3
    clear c3
    obtain rfl:=Option.some.inj H
    go_wp2
    go_ret
    exact ⟨z10_,by repeat (first | (with_reducible first | exact HB.out | apply below_alloc | apply pw_below_drewN | apply below_drew1 | refine below_set ?_ GE61.out) | exact HB.out)⟩


/-! ### impl_order: function 51 -/
mutual
def impl_order.j0:Nat→Int→Int→List (S59)→Option (List Int)
 | 0,_,_,_=>none
 | k+1,x6,x390000,x390001=>impl_order.l0 k x6 ([]:List Int) (x390001.length:Int) 0 x390000 x390001
def impl_order.l0:Nat→Int→List Int→Int→Int→Int→List (S59)→Option (List Int)
 | 0,_,_,_,_,_,_=>none
 | k+1,x6,x7,x20,x21,x390000,x390001=>if x21<x20 then (if (x390001.length:Int)=0 then (none) else (if 0≤(Int.tmod (wrap64 (x6+x21)) (x390001.length:Int)) then (if (Int.tmod (wrap64 (x6+x21)) (x390001.length:Int))<(x390001.length:Int) then ((slices_Contains_int64_int64.f k x7 ((rd_T59 x390001 (Int.tmod (wrap64 (x6+x21)) (x390001.length:Int))).f1)).bind fun t394=>(if t394=true then (impl_order.l0 k x6 x7 x20 (wrap64 (x21+1)) x390000 x390001) else (if x7.length<17592186044416 then (impl_order.l0 k x6 (x7 ++ [(rd_T59 x390001 (Int.tmod (wrap64 (x6+x21)) (x390001.length:Int))).f1]) x20 (wrap64 (x21+1)) x390000 x390001) else (none)))) else (none)) else (none))) else (some x7)
end
def impl_order.f (k:Nat) (a0_0:Int) (l0_1:List (S59)) (a1:ByteArray):Option (List Int):=(impl_fnv.f k a1).bind fun t390=>((slices_IndexFunc_impl_Token_impl_Token_impl_order_1.f k l0_1 t390).bind fun t392=>(if t392<0 then (impl_order.j0 k 0 a0_0 l0_1) else (impl_order.j0 k t392 a0_0 l0_1)))
theorem impl_order.mono_l:∀ k,(∀ y0 y1 y2,LeO (impl_order.j0 k y0 y1 y2) (impl_order.j0 (k+1) y0 y1 y2))∧(∀ y0 y1 y2 y3 y4 y5,LeO (impl_order.l0 k y0 y1 y2 y3 y4 y5) (impl_order.l0 (k+1) y0 y1 y2 y3 y4 y5))
 | 0=>⟨fun _ _ _ r h=>by simp [impl_order.j0] at h,fun _ _ _ _ _ _ r h=>by simp [impl_order.l0] at h⟩
 | k+1=>by
  obtain ⟨ih0,ih1⟩:=impl_order.mono_l k
  refine ⟨?_,?_⟩
  ·intro y0 y1 y2
   unfold impl_order.j0
   repeat' first
   | (with_reducible exact ih0 _ _ _)
   | (with_reducible exact ih1 _ _ _ _ _ _)
   | (with_reducible exact impl_fnv.mono _ _)
   | (with_reducible exact slices_Contains_int64_int64.mono _ _ _)
   | (with_reducible exact slices_IndexFunc_impl_Token_impl_Token_impl_order_1.mono _ _ _)
   | (with_reducible exact LeO.refl _)
   | (with_reducible exact LeO.none _)
   | (with_reducible refine LeO.ite ?_ ?_)
   | (with_reducible refine LeO.bind ?_ (fun _=>?_))
   | exact ih0 _ _ _
   | exact ih1 _ _ _ _ _ _
   | exact impl_fnv.mono _ _
   | exact slices_Contains_int64_int64.mono _ _ _
   | exact slices_IndexFunc_impl_Token_impl_Token_impl_order_1.mono _ _ _
   | exact LeO.none _
   | refine LeO.ite ?_ ?_
   | refine LeO.bind ?_ (fun _=>?_)
  ·intro y0 y1 y2 y3 y4 y5
   unfold impl_order.l0
   repeat' first
   | (with_reducible exact ih0 _ _ _)
   | (with_reducible exact ih1 _ _ _ _ _ _)
   | (with_reducible exact impl_fnv.mono _ _)
   | (with_reducible exact slices_Contains_int64_int64.mono _ _ _)
   | (with_reducible exact slices_IndexFunc_impl_Token_impl_Token_impl_order_1.mono _ _ _)
   | (with_reducible exact LeO.refl _)
   | (with_reducible exact LeO.none _)
   | (with_reducible refine LeO.ite ?_ ?_)
   | (with_reducible refine LeO.bind ?_ (fun _=>?_))
   | exact ih0 _ _ _
   | exact ih1 _ _ _ _ _ _
   | exact impl_fnv.mono _ _
   | exact slices_Contains_int64_int64.mono _ _ _
   | exact slices_IndexFunc_impl_Token_impl_Token_impl_order_1.mono _ _ _
   | exact LeO.none _
   | refine LeO.ite ?_ ?_
   | refine LeO.bind ?_ (fun _=>?_)
theorem impl_order.mono:∀ a0 a1 a2 k,LeO (impl_order.f k a0 a1 a2) (impl_order.f (k+1) a0 a1 a2):=by
 intro a0 a1 a2 k
 obtain ⟨ih0,ih1⟩:=impl_order.mono_l k
 unfold impl_order.f
 repeat' first
   | (with_reducible exact ih0 _ _ _)
   | (with_reducible exact ih1 _ _ _ _ _ _)
   | (with_reducible exact impl_fnv.mono _ _)
   | (with_reducible exact slices_Contains_int64_int64.mono _ _ _)
   | (with_reducible exact slices_IndexFunc_impl_Token_impl_Token_impl_order_1.mono _ _ _)
   | (with_reducible exact LeO.refl _)
   | (with_reducible exact LeO.none _)
   | (with_reducible refine LeO.ite ?_ ?_)
   | (with_reducible refine LeO.bind ?_ (fun _=>?_))
   | exact ih0 _ _ _
   | exact ih1 _ _ _ _ _ _
   | exact impl_fnv.mono _ _
   | exact slices_Contains_int64_int64.mono _ _ _
   | exact slices_IndexFunc_impl_Token_impl_Token_impl_order_1.mono _ _ _
   | exact LeO.none _
   | refine LeO.ite ?_ ?_
   | refine LeO.bind ?_ (fun _=>?_)
set_option maxHeartbeats 8000000 in
set_option maxRecDepth 100000 in
theorem impl_order.calls (k:Nat) (a0_0:Int) (A0_1:Option Addr) (c0_1:Nat) (l0_1:List (S59)) (a1:ByteArray) (r:List Int) (w:World) (hr0_1:Kd.C k59 w A0_1 l0_1.length l0_1) (hc0_1:l0_1.length≤c0_1) (h:impl_order.f k a0_0 l0_1 a1=some r) :
  Calls Tryd.prog 51 #[.agg #[.int .i64 a0_0,.slice A0_1 l0_1.length c0_1],.string a1] w fun e w'=>∃ v0_:Value,e = .returned (v0_)∧Kd.R (Kd.int .i64) 2 w' w.heap.size (fun _=>True) v0_ r∧Below w.heap.size w w':=by
 have hu30:=Tryd.underlying30
 have HR0_1:=Aside0.mk hr0_1
 have HC0_1:=Aside0.mk hc0_1
 clear hr0_1 hc0_1
 have HB:=Aside0.mk (Below.refl w.heap.size w)
 have H:((impl_fnv.f k a1).bind fun t390=>((slices_IndexFunc_impl_Token_impl_Token_impl_order_1.f k l0_1 t390).bind fun t392=>(if t392<0 then (impl_order.j0 k 0 a0_0 l0_1) else (impl_order.j0 k t392 a0_0 l0_1))))=some r:=h
 clear h
 replace H:=Option.bind_eq_some_iff.mp H
 obtain ⟨t390,A30,H⟩:=H
 replace H:((slices_IndexFunc_impl_Token_impl_Token_impl_order_1.f k l0_1 t390).bind fun t392=>(if t392<0 then (impl_order.j0 k 0 a0_0 l0_1) else (impl_order.j0 k t392 a0_0 l0_1)))=some r:=H
 have A3:=Aside0.mk A30
 clear A30
 replace H:=Option.bind_eq_some_iff.mp H
 obtain ⟨t392,A40,H⟩:=H
 replace H:(if t392<0 then (impl_order.j0 k 0 a0_0 l0_1) else (impl_order.j0 k t392 a0_0 l0_1))=some r:=H
 have A4:=Aside0.mk A40
 clear A40
 have HC5:=Aside0.mk H
 clear H
 go_enter Tryd.func51,Tryd.ntmps51
 go_upto_if 17 with (first | ((with_reducible refine gd_ 2 ?_);refine be_ 2 #[.int .i64 a0_0,.slice A0_1 l0_1.length c0_1] 30 ?_;intro gb389 hg w6 hbox hb;refine as4_ (below_step (z6_ HB.out) hb) (hbox) ((z8_ HB.out:w.heap.size≤gb389)) ((z8_ HB.out:w.heap.size≤gb389)) ?_;clear HB;intro HB BK389 GW389 GE389;clear hb hbox hg) | (go_at_call 58;(with_reducible refine (impl_fnv.calls k a1 t390 _ A3.out).mono ?_);rintro e w' ⟨rfl,⟨nd,rfl⟩⟩;(try first | exact ⟨rfl,_,World.drewN_drewN _ _ _⟩ | exact ⟨rfl,_,Eq.trans (World.drewN_drewN _ _ _) (congrArg (World.drewN _) (Nat.add_assoc _ _ _))⟩)) | ((with_reducible refine gd_ 5 ?_);refine be_ 5 #[.int .i64 0] 2 ?_;intro gb391 hg w7 hbox hb;refine as7_ (blkB_ BK389.out hb) (below_step (z4_ HB.out GE389.out) hb) (hbox) ((z12_ HB.out GE389.out:w.heap.size≤gb391)) ((z12_ HB.out GE389.out:w.heap.size≤gb391)) (neL_ BK389.out hg) (neG_ BK389.out hg) ?_;clear BK389 HB;intro BK389 HB BK391 GW391 GE391 NB389_391 NB391_389;clear hb hbox hg;have hnb8:=NB391_389.out;have hnc8:=NB389_391.out;have ⟨hcz9_0,hfz9_0⟩:=cz1_ BK391.out;have ⟨hcz10_0,hcz10_1,hfz10_0,hfz10_1⟩:=cz2_ BK389.out) | (go_at_call 66;(with_reducible refine (slices_IndexFunc_impl_Token_impl_Token_impl_order_1.calls k _ _ l0_1 gb391 t390 t392 _ ?s1 ?s2 ?s3 A4.out).mono ?_);(case s1=>exact Kd.C_below HR0_1.out (z7_ HB.out GE389.out GE391.out));(case s2=>exact HC0_1.out);(case s3=>(with_reducible repeat (first | refine blk_drewN ?_ _ | refine blk_drew ?_ | refine blk_alloc ?_ _));refine blk_put (cs:=#[.int .i64 0]) ?_ 0 _ rfl;(with_reducible repeat (first | refine blk_drewN ?_ _ | refine blk_drew ?_ | refine blk_alloc ?_ _));exact BK391.out);rintro e w11 ⟨rfl,hb⟩;refine as3_ (blk_below (g:=gb389) (o:=.cells #[.int .i64 a0_0,.slice A0_1 l0_1.length c0_1] 30 (0,0)) (z25_ NB389_391.out BK389.out) hb) (blk_below (g:=gb391) (o:=.cells #[.int .i64 t390] 2 (0,0)) (z44_ BK391.out) hb) (below_step (z7_ HB.out GE389.out GE391.out) hb) ?_;clear BK389 BK391 HB;intro BK389 BK391 HB;(try clear hb)))
 repeat (go_quiet (first | ((with_reducible refine gd_ 2 ?_);refine be_ 2 #[.int .i64 a0_0,.slice A0_1 l0_1.length c0_1] 30 ?_;intro gb389 hg w6 hbox hb;refine as4_ (below_step (z6_ HB.out) hb) (hbox) ((z8_ HB.out:w.heap.size≤gb389)) ((z8_ HB.out:w.heap.size≤gb389)) ?_;clear HB;intro HB BK389 GW389 GE389;clear hb hbox hg) | (go_at_call 58;(with_reducible refine (impl_fnv.calls k a1 t390 _ A3.out).mono ?_);rintro e w' ⟨rfl,⟨nd,rfl⟩⟩;(try first | exact ⟨rfl,_,World.drewN_drewN _ _ _⟩ | exact ⟨rfl,_,Eq.trans (World.drewN_drewN _ _ _) (congrArg (World.drewN _) (Nat.add_assoc _ _ _))⟩)) | ((with_reducible refine gd_ 5 ?_);refine be_ 5 #[.int .i64 0] 2 ?_;intro gb391 hg w7 hbox hb;refine as7_ (blkB_ BK389.out hb) (below_step (z4_ HB.out GE389.out) hb) (hbox) ((z12_ HB.out GE389.out:w.heap.size≤gb391)) ((z12_ HB.out GE389.out:w.heap.size≤gb391)) (neL_ BK389.out hg) (neG_ BK389.out hg) ?_;clear BK389 HB;intro BK389 HB BK391 GW391 GE391 NB389_391 NB391_389;clear hb hbox hg;have hnb8:=NB391_389.out;have hnc8:=NB389_391.out;have ⟨hcz9_0,hfz9_0⟩:=cz1_ BK391.out;have ⟨hcz10_0,hcz10_1,hfz10_0,hfz10_1⟩:=cz2_ BK389.out) | (go_at_call 66;(with_reducible refine (slices_IndexFunc_impl_Token_impl_Token_impl_order_1.calls k _ _ l0_1 gb391 t390 t392 _ ?s1 ?s2 ?s3 A4.out).mono ?_);(case s1=>exact Kd.C_below HR0_1.out (z7_ HB.out GE389.out GE391.out));(case s2=>exact HC0_1.out);(case s3=>(with_reducible repeat (first | refine blk_drewN ?_ _ | refine blk_drew ?_ | refine blk_alloc ?_ _));refine blk_put (cs:=#[.int .i64 0]) ?_ 0 _ rfl;(with_reducible repeat (first | refine blk_drewN ?_ _ | refine blk_drew ?_ | refine blk_alloc ?_ _));exact BK391.out);rintro e w11 ⟨rfl,hb⟩;refine as3_ (blk_below (g:=gb389) (o:=.cells #[.int .i64 a0_0,.slice A0_1 l0_1.length c0_1] 30 (0,0)) (z25_ NB389_391.out BK389.out) hb) (blk_below (g:=gb391) (o:=.cells #[.int .i64 t390] 2 (0,0)) (z44_ BK391.out) hb) (below_step (z7_ HB.out GE389.out GE391.out) hb) ?_;clear BK389 BK391 HB;intro BK389 BK391 HB;(try clear hb)));go_upto_if 17 with (first | ((with_reducible refine gd_ 2 ?_);refine be_ 2 #[.int .i64 a0_0,.slice A0_1 l0_1.length c0_1] 30 ?_;intro gb389 hg w6 hbox hb;refine as4_ (below_step (z6_ HB.out) hb) (hbox) ((z8_ HB.out:w.heap.size≤gb389)) ((z8_ HB.out:w.heap.size≤gb389)) ?_;clear HB;intro HB BK389 GW389 GE389;clear hb hbox hg) | (go_at_call 58;(with_reducible refine (impl_fnv.calls k a1 t390 _ A3.out).mono ?_);rintro e w' ⟨rfl,⟨nd,rfl⟩⟩;(try first | exact ⟨rfl,_,World.drewN_drewN _ _ _⟩ | exact ⟨rfl,_,Eq.trans (World.drewN_drewN _ _ _) (congrArg (World.drewN _) (Nat.add_assoc _ _ _))⟩)) | ((with_reducible refine gd_ 5 ?_);refine be_ 5 #[.int .i64 0] 2 ?_;intro gb391 hg w7 hbox hb;refine as7_ (blkB_ BK389.out hb) (below_step (z4_ HB.out GE389.out) hb) (hbox) ((z12_ HB.out GE389.out:w.heap.size≤gb391)) ((z12_ HB.out GE389.out:w.heap.size≤gb391)) (neL_ BK389.out hg) (neG_ BK389.out hg) ?_;clear BK389 HB;intro BK389 HB BK391 GW391 GE391 NB389_391 NB391_389;clear hb hbox hg;have hnb8:=NB391_389.out;have hnc8:=NB389_391.out;have ⟨hcz9_0,hfz9_0⟩:=cz1_ BK391.out;have ⟨hcz10_0,hcz10_1,hfz10_0,hfz10_1⟩:=cz2_ BK389.out) | (go_at_call 66;(with_reducible refine (slices_IndexFunc_impl_Token_impl_Token_impl_order_1.calls k _ _ l0_1 gb391 t390 t392 _ ?s1 ?s2 ?s3 A4.out).mono ?_);(case s1=>exact Kd.C_below HR0_1.out (z7_ HB.out GE389.out GE391.out));(case s2=>exact HC0_1.out);(case s3=>(with_reducible repeat (first | refine blk_drewN ?_ _ | refine blk_drew ?_ | refine blk_alloc ?_ _));refine blk_put (cs:=#[.int .i64 0]) ?_ 0 _ rfl;(with_reducible repeat (first | refine blk_drewN ?_ _ | refine blk_drew ?_ | refine blk_alloc ?_ _));exact BK391.out);rintro e w11 ⟨rfl,hb⟩;refine as3_ (blk_below (g:=gb389) (o:=.cells #[.int .i64 a0_0,.slice A0_1 l0_1.length c0_1] 30 (0,0)) (z25_ NB389_391.out BK389.out) hb) (blk_below (g:=gb391) (o:=.cells #[.int .i64 t390] 2 (0,0)) (z44_ BK391.out) hb) (below_step (z7_ HB.out GE389.out GE391.out) hb) ?_;clear BK389 BK391 HB;intro BK389 BK391 HB;(try clear hb))))
 (try simp only [Act.put,sa_,s0_,ss_])
 go_cut [6] (fun v6 wc=>∃ (kq:Nat) (x6_4:Int),v6 = .int .i64 x6_4∧Aside0 (impl_order.j0 kq x6_4 a0_0 l0_1=some r)∧Aside0 (kq≤k)∧Aside0 (wc.heap[gb389]? = some (.cells #[.int .i64 a0_0,(.slice A0_1 l0_1.length c0_1)] 30 (0,0)))∧Aside0 True∧Aside0 (Below w.heap.size w wc))
 case first =>
  have H:=HC5.out
  clear HC5
  by_cases c12:t392<0
  ·rw [if_pos c12] at H
   have c12b0:decide (t392<0)=true:=decide_eq_true c12
   clear c12
   (first | rw [c12b0] | (simp only [i64_w,i32_w];rw [c12b0]) | skip)
   have H':=Aside0.mk H
   clear H
   go_wp2
   repeat (go_quiet (fail);try go_wp2)
   go_meet
   case rel=>exact ⟨_,(0),(z1_),H',⟨by first | omega | exact Nat.le_refl _⟩,⟨z3_ BK389.out⟩,⟨trivial⟩,⟨z7_ HB.out GE389.out GE391.out⟩⟩
  ·rw [if_neg c12] at H
   have c12b0:decide (t392<0)=false:=decide_eq_false c12
   clear c12
   (first | rw [c12b0] | (simp only [i64_w,i32_w];rw [c12b0]) | skip)
   have H':=Aside0.mk H
   clear H
   go_wp2
   repeat (go_quiet (fail);try go_wp2)
   go_meet
   case rel=>exact ⟨_,(t392),(z1_),H',⟨by first | omega | exact Nat.le_refl _⟩,⟨z3_ BK389.out⟩,⟨trivial⟩,⟨z7_ HB.out GE389.out GE391.out⟩⟩
 case rest =>
  clear HC5
  try clear c1
  try clear p2
  try clear c5
  try clear c8
  try clear c12
  try clear c12b0
  try clear hcz10_0
  try clear hcz10_1
  try clear hcz9_0
  try clear hfz10_0
  try clear hfz10_1
  try clear hfz9_0
  obtain ⟨kq,x6_4,rfl,HA,HJ4,BK389,BK391,HB⟩:=hcut
  cases kq with
  | zero=>exact absurd HA.out (by simp [impl_order.j0])
  | succ kj4 =>
   have H:=HA.out
   clear HA
   simp only [impl_order.j0] at H
   have H':=Aside0.mk H
   clear H
   have hnb13:=NB389_391.out
   have hnc13:=NB391_389.out
   have ⟨hcz14_0,hcz14_1,hfz14_0,hfz14_1⟩:=cz2_ BK389.out
   go_wp2
   repeat (go_quiet (fail);try go_wp2)
   go_loopg [7,21] kj4 (fun kq v7 v21 w'=>∃ (x7_2:List Int) (x21_2:Int),v21 = .int .i64 x21_2∧Aside0 (impl_order.l0 kq x6_4 x7_2 (l0_1.length:Int) x21_2 a0_0 l0_1=some r)∧Aside0 (kq≤kj4)∧Aside0 (Kd.R (Kd.int .i64) 2 w' w.heap.size (fun _=>True) v7 x7_2)∧Aside0 (w'.heap[gb389]? = some (.cells #[.int .i64 a0_0,(.slice A0_1 l0_1.length c0_1)] 30 (0,0)))∧Aside0 True∧Aside0 (Below w.heap.size w w'))
   case atStart=>exact ⟨(([]:List Int)),(0),(z1_),H',⟨Nat.le_refl _⟩,⟨z28_⟩,⟨z3_ BK389.out⟩,⟨trivial⟩,⟨z7_ HB.out GE389.out GE391.out⟩⟩
   case round =>
    clear H'
    try clear c1
    try clear p2
    try clear c5
    try clear c8
    try clear c12
    try clear c12b0
    try clear c13
    try clear hcz10_0
    try clear hcz10_1
    try clear hcz14_0
    try clear hcz14_1
    try clear hcz9_0
    try clear hfz10_0
    try clear hfz10_1
    try clear hfz14_0
    try clear hfz14_1
    try clear hfz9_0
    try clear p2
    obtain ⟨x7_2,x21_2,rfl,HA,HK2,HO_7,BK389,BK391,HB⟩:=hrel
    cases gk with
    | zero=>exact absurd HA.out (by simp [impl_order.l0])
    | succ k2 =>
     have H:=HA.out
     clear HA
     simp only [impl_order.l0] at H
     by_cases c15:x21_2<(l0_1.length:Int)
     ·rw [if_pos c15] at H
      have c15b0:decide (x21_2<(l0_1.length:Int))=true:=decide_eq_true c15
      clear c15
      by_cases c16:(l0_1.length:Int)=0
      ·rw [if_pos c16] at H
       exact absurd H (by simp)
      ·rw [if_neg c16] at H
       have c16b0:((l0_1.length:Int) == 0)=false:=beq_eq_false_iff_ne.mpr c16
       have c16b1:((l0_1.length:Int) != 0)=true:=bne_iff_ne.mpr c16
       have c16b2:¬ (l0_1=[]):=fun h_=>c16 (by rw [h_];rfl)
       obtain ⟨ji17,hji17⟩:∃ j_:Int,(Int.tmod (wrap64 (x6_4+x21_2)) (l0_1.length:Int))=j_:=⟨_,rfl⟩
       replace H:(if 0≤(ji17) then (if (ji17)<(l0_1.length:Int) then ((slices_Contains_int64_int64.f k2 x7_2 ((rd_T59 l0_1 (ji17)).f1)).bind fun t394=>(if t394=true then (impl_order.l0 k2 x6_4 x7_2 (l0_1.length:Int) (wrap64 (x21_2+1)) a0_0 l0_1) else (if x7_2.length<17592186044416 then (impl_order.l0 k2 x6_4 (x7_2 ++ [(rd_T59 l0_1 (ji17)).f1]) (l0_1.length:Int) (wrap64 (x21_2+1)) a0_0 l0_1) else (none)))) else (none)) else (none))=some r:=by first | (rw [hji17] at H;exact H) | (simp only [hji17] at H ⊢;exact H)
       by_cases c18:0≤(ji17)
       ·rw [if_pos c18] at H
        have c18b0:decide (0≤(ji17))=true:=decide_eq_true c18
        clear c18
        by_cases c19:(ji17)<(l0_1.length:Int)
        ·rw [if_pos c19] at H
         have c19b0:decide ((ji17)<(l0_1.length:Int))=true:=decide_eq_true c19
         clear c19
         replace H:=Option.bind_eq_some_iff.mp H
         obtain ⟨t394,A200,H⟩:=H
         replace H:(if t394=true then (impl_order.l0 k2 x6_4 x7_2 (l0_1.length:Int) (wrap64 (x21_2+1)) a0_0 l0_1) else (if x7_2.length<17592186044416 then (impl_order.l0 k2 x6_4 (x7_2 ++ [(rd_T59 l0_1 (ji17)).f1]) (l0_1.length:Int) (wrap64 (x21_2+1)) a0_0 l0_1) else (none)))=some r:=H
         have A20:=Aside0.mk A200
         clear A200
         by_cases c21:t394=true
         ·subst c21
          have H1:(impl_order.l0 k2 x6_4 x7_2 (l0_1.length:Int) (wrap64 (x21_2+1)) a0_0 l0_1)=some r:=by rw [if_pos rfl] at H;exact H
          clear H
          have H:=H1
          clear H1
          have H':=Aside0.mk H
          clear H
          have hnb22:=NB389_391.out
          have hnc22:=NB391_389.out
          have ⟨hcz23_0,hcz23_1,hfz23_0,hfz23_1⟩:=cz2_ BK389.out
          have p393:0≤((ji17):Int):=of_decide_eq_true (z0_)
          have q393:(ji17)<(l0_1.length:Int):=of_decide_eq_true (z0_)
          obtain ⟨ad393,e393,hx393_0,hx393_1⟩:=at_T59 HR0_1.out (ji17) p393 q393
          cases e393
          replace hx393_0:=(HB.out.cell (World.block_lt_of_cell? w _ hx393_0)).trans hx393_0
          replace hx393_1:=(HB.out.cell (World.block_lt_of_cell? w _ hx393_1)).trans hx393_1
          replace p393:=eq_true p393
          replace q393:=eq_true q393
          obtain ⟨Ao24,co24,eo24⟩:=Kd.R_slice HO_7.out
          subst eo24
          go_wp2_with (first | (go_at_call 49;(with_reducible refine (slices_Contains_int64_int64.calls k2 _ _ x7_2 ((rd_T59 l0_1 (ji17)).f1) true _ ?s1 ?s2 A20.out).mono ?_);(case s1=>repeat (first | exact (Kd.R_reads' HO_7.out).2.2 | (with_reducible refine Kd.C_alloc ?_ _) | (with_reducible refine Kd.C_drewN ?_ _) | (with_reducible refine Kd.C_drew ?_)));(case s2=>exact (Kd.R_reads' HO_7.out).2.1);rintro e w' ⟨rfl,⟨nd,rfl⟩⟩;(try first | exact ⟨rfl,_,World.drewN_drewN _ _ _⟩ | exact ⟨rfl,_,Eq.trans (World.drewN_drewN _ _ _) (congrArg (World.drewN _) (Nat.add_assoc _ _ _))⟩)))
          repeat (go_quiet (first | (go_at_call 49;(with_reducible refine (slices_Contains_int64_int64.calls k2 _ _ x7_2 ((rd_T59 l0_1 (ji17)).f1) true _ ?s1 ?s2 A20.out).mono ?_);(case s1=>repeat (first | exact (Kd.R_reads' HO_7.out).2.2 | (with_reducible refine Kd.C_alloc ?_ _) | (with_reducible refine Kd.C_drewN ?_ _) | (with_reducible refine Kd.C_drew ?_)));(case s2=>exact (Kd.R_reads' HO_7.out).2.1);rintro e w' ⟨rfl,⟨nd,rfl⟩⟩;(try first | exact ⟨rfl,_,World.drewN_drewN _ _ _⟩ | exact ⟨rfl,_,Eq.trans (World.drewN_drewN _ _ _) (congrArg (World.drewN _) (Nat.add_assoc _ _ _))⟩)));try go_wp2_with (first | (go_at_call 49;(with_reducible refine (slices_Contains_int64_int64.calls k2 _ _ x7_2 ((rd_T59 l0_1 (ji17)).f1) true _ ?s1 ?s2 A20.out).mono ?_);(case s1=>repeat (first | exact (Kd.R_reads' HO_7.out).2.2 | (with_reducible refine Kd.C_alloc ?_ _) | (with_reducible refine Kd.C_drewN ?_ _) | (with_reducible refine Kd.C_drew ?_)));(case s2=>exact (Kd.R_reads' HO_7.out).2.1);rintro e w' ⟨rfl,⟨nd,rfl⟩⟩;(try first | exact ⟨rfl,_,World.drewN_drewN _ _ _⟩ | exact ⟨rfl,_,Eq.trans (World.drewN_drewN _ _ _) (congrArg (World.drewN _) (Nat.add_assoc _ _ _))⟩))))
          go_roundg k2
          case measure=>have:=HJ4.out;have:=HK2.out;omega
          case rel=>exact ⟨(x7_2),(wrap64 (x21_2+1)),(z1_),H',⟨z13_ HJ4.out HK2.out⟩,⟨z2_ HO_7.out⟩,⟨z3_ BK389.out⟩,⟨trivial⟩,⟨z7_ HB.out GE389.out GE391.out⟩⟩
         ·replace c21:=Bool.eq_false_iff.mpr c21
          subst c21
          have H1:(if x7_2.length<17592186044416 then (impl_order.l0 k2 x6_4 (x7_2 ++ [(rd_T59 l0_1 (ji17)).f1]) (l0_1.length:Int) (wrap64 (x21_2+1)) a0_0 l0_1) else (none))=some r:=by rw [if_neg (show ¬ (false=true) by decide)] at H;exact H
          clear H
          have H:=H1
          clear H1
          by_cases c25:x7_2.length<17592186044416
          ·rw [if_pos c25] at H
           have LMc25:=Aside0.mk c25
           clear c25
           obtain ⟨y395,hy395⟩:∃ y_:List Int,y_=(x7_2 ++ [(rd_T59 l0_1 (ji17)).f1]):=⟨_,rfl⟩
           replace H:(impl_order.l0 k2 x6_4 y395 (l0_1.length:Int) (wrap64 (x21_2+1)) a0_0 l0_1)=some r:=by first | (rw [hy395];with_reducible exact H) | (have H2_:=(Option.bind_some _ _).symm.trans H;rw [hy395];with_reducible exact H2_) | (have H2_:=(Option.bind_some _ _).symm.trans H;with_reducible exact H2_) | with_reducible exact H | (rw [hy395];exact H) | exact H
           have Ny395:=Aside0.mk hy395
           clear hy395
           have H':=Aside0.mk H
           clear H
           have hnb26:=NB389_391.out
           have hnc26:=NB391_389.out
           have ⟨hcz27_0,hcz27_1,hfz27_0,hfz27_1⟩:=cz2_ BK389.out
           have p393:0≤((ji17):Int):=of_decide_eq_true (z0_)
           have q393:(ji17)<(l0_1.length:Int):=of_decide_eq_true (z0_)
           obtain ⟨ad393,e393,hx393_0,hx393_1⟩:=at_T59 HR0_1.out (ji17) p393 q393
           cases e393
           replace hx393_0:=(HB.out.cell (World.block_lt_of_cell? w _ hx393_0)).trans hx393_0
           replace hx393_1:=(HB.out.cell (World.block_lt_of_cell? w _ hx393_1)).trans hx393_1
           replace p393:=eq_true p393
           replace q393:=eq_true q393
           obtain ⟨Ao28,co28,eo28⟩:=Kd.R_slice HO_7.out
           subst eo28
           go_wp2_with (first | (go_at_call 49;(with_reducible refine (slices_Contains_int64_int64.calls k2 _ _ x7_2 ((rd_T59 l0_1 (ji17)).f1) false _ ?s1 ?s2 A20.out).mono ?_);(case s1=>repeat (first | exact (Kd.R_reads' HO_7.out).2.2 | (with_reducible refine Kd.C_alloc ?_ _) | (with_reducible refine Kd.C_drewN ?_ _) | (with_reducible refine Kd.C_drew ?_)));(case s2=>exact (Kd.R_reads' HO_7.out).2.1);rintro e w' ⟨rfl,⟨nd,rfl⟩⟩;(try first | exact ⟨rfl,_,World.drewN_drewN _ _ _⟩ | exact ⟨rfl,_,Eq.trans (World.drewN_drewN _ _ _) (congrArg (World.drewN _) (Nat.add_assoc _ _ _))⟩)) | ((with_reducible refine gate_builtin (b:=.append) (xs:=#[.tmp 40,.tmp 42]) rfl ?_);at_builtin;refine Kd.R_append (Kd.int .i64) (w0:=w) w.heap.size rfl (.tmp 40) (.tmp 42) 26 2 (.int .i64 0) 8 rfl Tryd.underlying26 info2 rfl (by decide) (by omega) (.slice Ao28 x7_2.length co28) x7_2 ((rd_T59 l0_1 (ji17)).f1) [.int .i64 ((rd_T59 l0_1 (ji17)).f1)] (fun _=>True) (fun _=>False) rfl rfl ?aP (fun _ hk=>hk.elim) ?aF ?aO ?aB ?aS ?aL ?_;(case aP=>exact rfl);(case aB=>exact (z7_ HB.out GE389.out GE391.out));(case aF=>exact (fun _ _=>trivial));(case aO=>exact (z2_ HO_7.out));(case aS=>exact (below_size (z7_ HB.out GE389.out GE391.out)));(case aL=>have:=LMc25.out;omega);intro v396 w29 ho hb hg hat;rw [← Ny395.out] at ho;have n0_:=Aside0.mk (blk_grown (g:=gb389) (o:=.cells #[.int .i64 a0_0,.slice (some ad393) l0_1.length c0_1] 30 (0,0)) (z3_ BK389.out) hg (Kd.R_ne HO_7.out BK389.out (by decide)));have n1_:=Aside0.mk trivial;have n2_:=Aside0.mk (hb);have n3_:=Aside0.mk (ho);clear BK389;clear BK391;clear HB;clear HO_7;have BK389:=n0_;have BK391:=n1_;have HB:=n2_;have HO397:=n3_;clear n0_ n1_ n2_ n3_;clear ho hb hg hat))
           repeat (go_quiet (first | (go_at_call 49;(with_reducible refine (slices_Contains_int64_int64.calls k2 _ _ x7_2 ((rd_T59 l0_1 (ji17)).f1) false _ ?s1 ?s2 A20.out).mono ?_);(case s1=>repeat (first | exact (Kd.R_reads' HO_7.out).2.2 | (with_reducible refine Kd.C_alloc ?_ _) | (with_reducible refine Kd.C_drewN ?_ _) | (with_reducible refine Kd.C_drew ?_)));(case s2=>exact (Kd.R_reads' HO_7.out).2.1);rintro e w' ⟨rfl,⟨nd,rfl⟩⟩;(try first | exact ⟨rfl,_,World.drewN_drewN _ _ _⟩ | exact ⟨rfl,_,Eq.trans (World.drewN_drewN _ _ _) (congrArg (World.drewN _) (Nat.add_assoc _ _ _))⟩)) | ((with_reducible refine gate_builtin (b:=.append) (xs:=#[.tmp 40,.tmp 42]) rfl ?_);at_builtin;refine Kd.R_append (Kd.int .i64) (w0:=w) w.heap.size rfl (.tmp 40) (.tmp 42) 26 2 (.int .i64 0) 8 rfl Tryd.underlying26 info2 rfl (by decide) (by omega) (.slice Ao28 x7_2.length co28) x7_2 ((rd_T59 l0_1 (ji17)).f1) [.int .i64 ((rd_T59 l0_1 (ji17)).f1)] (fun _=>True) (fun _=>False) rfl rfl ?aP (fun _ hk=>hk.elim) ?aF ?aO ?aB ?aS ?aL ?_;(case aP=>exact rfl);(case aB=>exact (z7_ HB.out GE389.out GE391.out));(case aF=>exact (fun _ _=>trivial));(case aO=>exact (z2_ HO_7.out));(case aS=>exact (below_size (z7_ HB.out GE389.out GE391.out)));(case aL=>have:=LMc25.out;omega);intro v396 w29 ho hb hg hat;rw [← Ny395.out] at ho;have n0_:=Aside0.mk (blk_grown (g:=gb389) (o:=.cells #[.int .i64 a0_0,.slice (some ad393) l0_1.length c0_1] 30 (0,0)) (z3_ BK389.out) hg (Kd.R_ne HO_7.out BK389.out (by decide)));have n1_:=Aside0.mk trivial;have n2_:=Aside0.mk (hb);have n3_:=Aside0.mk (ho);clear BK389;clear BK391;clear HB;clear HO_7;have BK389:=n0_;have BK391:=n1_;have HB:=n2_;have HO397:=n3_;clear n0_ n1_ n2_ n3_;clear ho hb hg hat));try go_wp2_with (first | (go_at_call 49;(with_reducible refine (slices_Contains_int64_int64.calls k2 _ _ x7_2 ((rd_T59 l0_1 (ji17)).f1) false _ ?s1 ?s2 A20.out).mono ?_);(case s1=>repeat (first | exact (Kd.R_reads' HO_7.out).2.2 | (with_reducible refine Kd.C_alloc ?_ _) | (with_reducible refine Kd.C_drewN ?_ _) | (with_reducible refine Kd.C_drew ?_)));(case s2=>exact (Kd.R_reads' HO_7.out).2.1);rintro e w' ⟨rfl,⟨nd,rfl⟩⟩;(try first | exact ⟨rfl,_,World.drewN_drewN _ _ _⟩ | exact ⟨rfl,_,Eq.trans (World.drewN_drewN _ _ _) (congrArg (World.drewN _) (Nat.add_assoc _ _ _))⟩)) | ((with_reducible refine gate_builtin (b:=.append) (xs:=#[.tmp 40,.tmp 42]) rfl ?_);at_builtin;refine Kd.R_append (Kd.int .i64) (w0:=w) w.heap.size rfl (.tmp 40) (.tmp 42) 26 2 (.int .i64 0) 8 rfl Tryd.underlying26 info2 rfl (by decide) (by omega) (.slice Ao28 x7_2.length co28) x7_2 ((rd_T59 l0_1 (ji17)).f1) [.int .i64 ((rd_T59 l0_1 (ji17)).f1)] (fun _=>True) (fun _=>False) rfl rfl ?aP (fun _ hk=>hk.elim) ?aF ?aO ?aB ?aS ?aL ?_;(case aP=>exact rfl);(case aB=>exact (z7_ HB.out GE389.out GE391.out));(case aF=>exact (fun _ _=>trivial));(case aO=>exact (z2_ HO_7.out));(case aS=>exact (below_size (z7_ HB.out GE389.out GE391.out)));(case aL=>have:=LMc25.out;omega);intro v396 w29 ho hb hg hat;rw [← Ny395.out] at ho;have n0_:=Aside0.mk (blk_grown (g:=gb389) (o:=.cells #[.int .i64 a0_0,.slice (some ad393) l0_1.length c0_1] 30 (0,0)) (z3_ BK389.out) hg (Kd.R_ne HO_7.out BK389.out (by decide)));have n1_:=Aside0.mk trivial;have n2_:=Aside0.mk (hb);have n3_:=Aside0.mk (ho);clear BK389;clear BK391;clear HB;clear HO_7;have BK389:=n0_;have BK391:=n1_;have HB:=n2_;have HO397:=n3_;clear n0_ n1_ n2_ n3_;clear ho hb hg hat)))
           go_roundg k2
           case measure=>have:=HJ4.out;have:=HK2.out;omega
           case rel=>exact ⟨(y395),(wrap64 (x21_2+1)),(z1_),H',⟨z13_ HJ4.out HK2.out⟩,⟨z2_ HO397.out⟩,⟨z3_ BK389.out⟩,⟨trivial⟩,⟨z7_ HB.out GE389.out GE391.out⟩⟩
          ·rw [if_neg c25] at H
           exact absurd H (by simp)
        ·rw [if_neg c19] at H
         exact absurd H (by simp)
       ·rw [if_neg c18] at H
        exact absurd H (by simp)
     ·rw [if_neg c15] at H
      have c15b0:decide (x21_2<(l0_1.length:Int))=false:=decide_eq_false c15
      clear c15
      obtain rfl:=Option.some.inj H
      go_wp2
      repeat (go_quiet (fail);try go_wp2)
      go_ret
      exact ⟨_,z10_,z2_ HO_7.out,z7_ HB.out GE389.out GE391.out⟩


/-! ### impl_places_1_cap: function 52 -/
def impl_places_1_cap.f (k:Nat) (a0:Int) (l1_0:List Int):Option (Bool):=(slices_Contains_int64_int64.f k l1_0 a0).bind fun t398=>(some t398)
theorem impl_places_1_cap.mono:∀ a0 a1 k,LeO (impl_places_1_cap.f k a0 a1) (impl_places_1_cap.f (k+1) a0 a1):=by
 intro a0 a1 k
 unfold impl_places_1_cap.f
 repeat' first
   | (with_reducible exact slices_Contains_int64_int64.mono _ _ _)
   | (with_reducible exact LeO.refl _)
   | (with_reducible exact LeO.none _)
   | (with_reducible refine LeO.ite ?_ ?_)
   | (with_reducible refine LeO.bind ?_ (fun _=>?_))
   | exact slices_Contains_int64_int64.mono _ _ _
   | exact LeO.none _
   | refine LeO.ite ?_ ?_
   | refine LeO.bind ?_ (fun _=>?_)
set_option maxHeartbeats 8000000 in
set_option maxRecDepth 100000 in
theorem impl_places_1_cap.calls (k:Nat) (a0:Int) (gb1:Nat) (A1_0:Option Addr) (c1_0:Nat) (l1_0:List Int) (r:Bool) (w:World) (hr1_0:Kd.C (Kd.int .i64) w A1_0 l1_0.length l1_0) (hc1_0:l1_0.length≤c1_0) (hk1:w.heap[gb1]? = some (.cells #[.slice A1_0 l1_0.length c1_0] 26 (0,0))) (h:impl_places_1_cap.f k a0 l1_0=some r) :
  Calls Tryd.prog 52 #[.int .i64 a0,.pointer (some ⟨gb1,0,none⟩)] w fun e w'=>e = .returned (.bool r)∧Below w.heap.size w w':=by
 have HR1_0:=Aside0.mk hr1_0
 have HC1_0:=Aside0.mk hc1_0
 clear hr1_0 hc1_0
 have BK61:=Aside0.mk hk1
 clear hk1
 have HB:=Aside0.mk (Below.refl w.heap.size w)
 have H:((slices_Contains_int64_int64.f k l1_0 a0).bind fun t398=>(some t398))=some r:=h
 clear h
 replace H:=Option.bind_eq_some_iff.mp H
 obtain ⟨t398,A30,H⟩:=H
 replace H:(some t398)=some r:=H
 have A3:=Aside0.mk A30
 clear A30
 obtain rfl:=Option.some.inj H
 have ⟨hcz4_0,hfz4_0⟩:=cz1_ BK61.out
 go_enter Tryd.func52,Tryd.ntmps52
 go_wp2_with (first | ((with_reducible refine gc_ 49 ?_);refine gl_ (some 6) Tryd.func49 #[.slice A1_0 l1_0.length c1_0,.int .i64 a0] ?_;(with_reducible refine (slices_Contains_int64_int64.calls k _ _ l1_0 a0 t398 _ ?s1 ?s2 A3.out).mono ?_);(case s1=>repeat (first | exact HR1_0.out | (with_reducible refine Kd.C_alloc ?_ _) | (with_reducible refine Kd.C_drewN ?_ _) | (with_reducible refine Kd.C_drew ?_)));(case s2=>exact HC1_0.out);rintro e w' ⟨rfl,⟨nd,rfl⟩⟩;refine ⟨_,rfl,?_⟩))
 go_ret
 exact ⟨z10_,by repeat (first | (with_reducible first | exact HB.out | apply below_alloc | apply pw_below_drewN | apply below_drew1 | refine below_set ?_ GE61.out) | exact HB.out)⟩


/-! ### slices_IndexFunc_int64_int64_impl_places_1: function 64 -/
def slices_IndexFunc_int64_int64_impl_places_1.l0:Nat→List Int→Int→Int→List Int→Option (Int)
 | 0,_,_,_,_=>none
 | k+1,x0,x7,x8,x62000=>if x8<x7 then (if 0≤x8 then (if x8<(x0.length:Int) then ((impl_places_1_cap.f k (rd x0 x8) x62000).bind fun t400=>(if t400=true then (some x8) else (slices_IndexFunc_int64_int64_impl_places_1.l0 k x0 x7 (wrap64 (x8+1)) x62000))) else (none)) else (none)) else (some (-1))
def slices_IndexFunc_int64_int64_impl_places_1.f (k:Nat) (l0:List Int) (l1_0:List Int):Option (Int):=slices_IndexFunc_int64_int64_impl_places_1.l0 k l0 (l0.length:Int) 0 l1_0
theorem slices_IndexFunc_int64_int64_impl_places_1.mono_l:∀ k,(∀ y0 y1 y2 y3,LeO (slices_IndexFunc_int64_int64_impl_places_1.l0 k y0 y1 y2 y3) (slices_IndexFunc_int64_int64_impl_places_1.l0 (k+1) y0 y1 y2 y3))
 | 0=>fun _ _ _ _ r h=>by simp [slices_IndexFunc_int64_int64_impl_places_1.l0] at h
 | k+1=>by
  have ih0:=slices_IndexFunc_int64_int64_impl_places_1.mono_l k
  ·intro y0 y1 y2 y3
   unfold slices_IndexFunc_int64_int64_impl_places_1.l0
   repeat' first
   | (with_reducible exact ih0 _ _ _ _)
   | (with_reducible exact impl_places_1_cap.mono _ _ _)
   | (with_reducible exact LeO.refl _)
   | (with_reducible exact LeO.none _)
   | (with_reducible refine LeO.ite ?_ ?_)
   | (with_reducible refine LeO.bind ?_ (fun _=>?_))
   | exact ih0 _ _ _ _
   | exact impl_places_1_cap.mono _ _ _
   | exact LeO.none _
   | refine LeO.ite ?_ ?_
   | refine LeO.bind ?_ (fun _=>?_)
theorem slices_IndexFunc_int64_int64_impl_places_1.mono:∀ a0 a1 k,LeO (slices_IndexFunc_int64_int64_impl_places_1.f k a0 a1) (slices_IndexFunc_int64_int64_impl_places_1.f (k+1) a0 a1):=by
 intro a0 a1 k
 have ih0:=slices_IndexFunc_int64_int64_impl_places_1.mono_l k
 unfold slices_IndexFunc_int64_int64_impl_places_1.f
 repeat' first
   | (with_reducible exact ih0 _ _ _ _)
   | (with_reducible exact impl_places_1_cap.mono _ _ _)
   | (with_reducible exact LeO.refl _)
   | (with_reducible exact LeO.none _)
   | (with_reducible refine LeO.ite ?_ ?_)
   | (with_reducible refine LeO.bind ?_ (fun _=>?_))
   | exact ih0 _ _ _ _
   | exact impl_places_1_cap.mono _ _ _
   | exact LeO.none _
   | refine LeO.ite ?_ ?_
   | refine LeO.bind ?_ (fun _=>?_)
set_option maxHeartbeats 8000000 in
set_option maxRecDepth 100000 in
theorem slices_IndexFunc_int64_int64_impl_places_1.calls (k:Nat) (A0:Option Addr) (c0:Nat) (l0:List Int) (gb1:Nat) (A1_0:Option Addr) (c1_0:Nat) (l1_0:List Int) (r:Int) (w:World) (hr0:Kd.C (Kd.int .i64) w A0 l0.length l0) (hc0:l0.length≤c0) (hr1_0:Kd.C (Kd.int .i64) w A1_0 l1_0.length l1_0) (hc1_0:l1_0.length≤c1_0) (hk1:w.heap[gb1]? = some (.cells #[.slice A1_0 l1_0.length c1_0] 26 (0,0))) (h:slices_IndexFunc_int64_int64_impl_places_1.f k l0 l1_0=some r) :
  Calls Tryd.prog 64 #[.slice A0 l0.length c0,.func (.func 52) #[] #[.pointer (some ⟨gb1,0,none⟩)]] w fun e w'=>e = .returned (.int .i64 r)∧Below w.heap.size w w':=by
 have HR0:=Aside0.mk hr0
 have HC0:=Aside0.mk hc0
 clear hr0 hc0
 have HR1_0:=Aside0.mk hr1_0
 have HC1_0:=Aside0.mk hc1_0
 clear hr1_0 hc1_0
 have BK61:=Aside0.mk hk1
 clear hk1
 have HB:=Aside0.mk (Below.refl w.heap.size w)
 have H:(slices_IndexFunc_int64_int64_impl_places_1.l0 k l0 (l0.length:Int) 0 l1_0)=some r:=h
 clear h
 have H':=Aside0.mk H
 clear H
 go_enter Tryd.func64,Tryd.ntmps64
 go_wp2
 go_loopg [8] k (fun kq v8 w'=>∃ (x8_1:Int),v8 = .int .i64 x8_1∧Aside0 (slices_IndexFunc_int64_int64_impl_places_1.l0 kq l0 (l0.length:Int) x8_1 l1_0=some r)∧Aside0 (kq≤k)∧Aside0 (w'.heap[gb1]? = some (.cells #[(.slice A1_0 l1_0.length c1_0)] 26 (0,0)))∧Aside0 (Below w.heap.size w w'))
 case atStart=>exact ⟨(0),(z1_),H',⟨Nat.le_refl _⟩,⟨z3_ BK61.out⟩,⟨by repeat (first | (with_reducible first | exact HB.out | apply below_alloc | apply pw_below_drewN | apply below_drew1 | refine below_set ?_ GE61.out) | exact HB.out)⟩⟩
 case round =>
  clear H'
  try clear c1
  try clear p2
  obtain ⟨x8_1,rfl,HA,HK1,BK61,HB⟩:=hrel
  cases gk with
  | zero=>exact absurd HA.out (by simp [slices_IndexFunc_int64_int64_impl_places_1.l0])
  | succ k1 =>
   have H:=HA.out
   clear HA
   simp only [slices_IndexFunc_int64_int64_impl_places_1.l0] at H
   by_cases c3:x8_1<(l0.length:Int)
   ·rw [if_pos c3] at H
    have c3b0:decide (x8_1<(l0.length:Int))=true:=decide_eq_true c3
    clear c3
    by_cases c4:0≤x8_1
    ·rw [if_pos c4] at H
     have c4b0:decide (0≤x8_1)=true:=decide_eq_true c4
     clear c4
     by_cases c5:x8_1<(l0.length:Int)
     ·rw [if_pos c5] at H
      have c5b0:decide (x8_1<(l0.length:Int))=true:=decide_eq_true c5
      clear c5
      replace H:=Option.bind_eq_some_iff.mp H
      obtain ⟨t400,A60,H⟩:=H
      replace H:(if t400=true then (some x8_1) else (slices_IndexFunc_int64_int64_impl_places_1.l0 k1 l0 (l0.length:Int) (wrap64 (x8_1+1)) l1_0))=some r:=H
      have A6:=Aside0.mk A60
      clear A60
      by_cases c7:t400=true
      ·subst c7
       have H1:(some x8_1)=some r:=by rw [if_pos rfl] at H;exact H
       clear H
       have H:=H1
       clear H1
       obtain rfl:=Option.some.inj H
       have p399:0≤(x8_1:Int):=of_decide_eq_true (z0_)
       have q399:x8_1<(l0.length:Int):=of_decide_eq_true (z0_)
       obtain ⟨ad399,e399,hx399_0⟩:=Kd.at_int HR0.out x8_1 p399 q399
       cases e399
       replace hx399_0:=(HB.out.cell (World.block_lt_of_cell? w _ hx399_0)).trans hx399_0
       replace p399:=eq_true p399
       replace q399:=eq_true q399
       go_wp2_with (first | (go_at_call 52;(with_reducible refine (impl_places_1_cap.calls k1 (rd l0 x8_1) gb1 A1_0 c1_0 l1_0 true _ ?s1 ?s2 ?s3 A6.out).mono ?_);(case s1=>repeat (first | exact (Kd.C_below HR1_0.out HB.out) | (with_reducible refine Kd.C_alloc ?_ _) | (with_reducible refine Kd.C_drewN ?_ _) | (with_reducible refine Kd.C_drew ?_)));(case s2=>exact HC1_0.out);(case s3=>(with_reducible repeat (first | refine blk_drewN ?_ _ | refine blk_drew ?_ | refine blk_alloc ?_ _));exact BK61.out);rintro e w8 ⟨rfl,hb⟩;refine as2_ (blkB_ BK61.out hb) (below_step (by repeat (first | (with_reducible first | exact HB.out | apply below_alloc | apply pw_below_drewN | apply below_drew1 | refine below_set ?_ GE61.out) | exact HB.out)) hb) ?_;clear BK61 HB;intro BK61 HB;(try clear hb)))
       go_ret
       exact ⟨z10_,by repeat (first | (with_reducible first | exact HB.out | apply below_alloc | apply pw_below_drewN | apply below_drew1 | refine below_set ?_ GE61.out) | exact HB.out)⟩
      ·replace c7:=Bool.eq_false_iff.mpr c7
       subst c7
       have H1:(slices_IndexFunc_int64_int64_impl_places_1.l0 k1 l0 (l0.length:Int) (wrap64 (x8_1+1)) l1_0)=some r:=by rw [if_neg (show ¬ (false=true) by decide)] at H;exact H
       clear H
       have H:=H1
       clear H1
       have H':=Aside0.mk H
       clear H
       have p399:0≤(x8_1:Int):=of_decide_eq_true (z0_)
       have q399:x8_1<(l0.length:Int):=of_decide_eq_true (z0_)
       obtain ⟨ad399,e399,hx399_0⟩:=Kd.at_int HR0.out x8_1 p399 q399
       cases e399
       replace hx399_0:=(HB.out.cell (World.block_lt_of_cell? w _ hx399_0)).trans hx399_0
       replace p399:=eq_true p399
       replace q399:=eq_true q399
       go_wp2_with (first | (go_at_call 52;(with_reducible refine (impl_places_1_cap.calls k1 (rd l0 x8_1) gb1 A1_0 c1_0 l1_0 false _ ?s1 ?s2 ?s3 A6.out).mono ?_);(case s1=>repeat (first | exact (Kd.C_below HR1_0.out HB.out) | (with_reducible refine Kd.C_alloc ?_ _) | (with_reducible refine Kd.C_drewN ?_ _) | (with_reducible refine Kd.C_drew ?_)));(case s2=>exact HC1_0.out);(case s3=>(with_reducible repeat (first | refine blk_drewN ?_ _ | refine blk_drew ?_ | refine blk_alloc ?_ _));exact BK61.out);rintro e w9 ⟨rfl,hb⟩;refine as2_ (blkB_ BK61.out hb) (below_step (by repeat (first | (with_reducible first | exact HB.out | apply below_alloc | apply pw_below_drewN | apply below_drew1 | refine below_set ?_ GE61.out) | exact HB.out)) hb) ?_;clear BK61 HB;intro BK61 HB;(try clear hb)))
       go_roundg k1
       case measure=>have:=HK1.out;omega
       case rel=>exact ⟨(wrap64 (x8_1+1)),(z1_),H',⟨by have:=HK1.out;omega⟩,⟨z3_ BK61.out⟩,⟨by repeat (first | (with_reducible first | exact HB.out | apply below_alloc | apply pw_below_drewN | apply below_drew1 | refine below_set ?_ GE61.out) | exact HB.out)⟩⟩
     ·rw [if_neg c5] at H
      exact absurd H (by simp)
    ·rw [if_neg c4] at H
     exact absurd H (by simp)
   ·rw [if_neg c3] at H
    have c3b0:decide (x8_1<(l0.length:Int))=false:=decide_eq_false c3
    clear c3
    obtain rfl:=Option.some.inj H
    go_wp2
    go_ret
    exact ⟨z10_,by repeat (first | (with_reducible first | exact HB.out | apply below_alloc | apply pw_below_drewN | apply below_drew1 | refine below_set ?_ GE61.out) | exact HB.out)⟩


theorem clear_cells {base g cap:Nat} {ok:Nat→Prop}:∀ (m i:Nat) (xs:List Int) (W:World),Kd.R (Kd.int .i64) 2 W base ok (.slice (some ⟨g,0,none⟩) xs.length cap) xs→i+m≤xs.length →
  ∃ xs':List Int,xs'.length=xs.length∧xs'.take i=xs.take i∧Kd.R (Kd.int .i64) 2 (W.setCells g i (List.replicate m (.int .i64 0))) base ok (.slice (some ⟨g,0,none⟩) xs.length cap) xs'
 | 0,i,xs,W,h,hi=>⟨xs,rfl,rfl,h⟩
 | m+1,i,xs,W,h,hi=>by
  have h1:=(Kd.R_put h (i:Int) (0:Int)).1
  rw [Int.toNat_natCast] at h1
  obtain ⟨xs',a,b,c⟩:=clear_cells m (i+1) (xs.set i 0) _ (by rw [List.length_set];exact h1) (by rw [List.length_set];omega)
  rw [List.length_set] at a c
  refine ⟨xs',a,?_,c⟩
  have:=congrArg (List.take i) b
  simpa [List.take_take,List.take_set_of_le] using this
theorem kept_cells {w:World} {S:Nat→Prop} {g:Nat} (hg:S g∨w.heap.size≤g):∀ (vs:List Value) (o:Nat) (W:World),Kept w W S→Kept w (W.setCells g o vs) S
 | [],_,_,h=>h
 | v :: r,o,W,h=>kept_cells hg r (o+1) _ (Kept.setCell (p:=⟨g,o,none⟩) h hg v)
theorem below_cells {w0:World} {g:Nat} (hg:w0.heap.size≤g):∀ (vs:List Value) (o:Nat) (W:World),Below w0.heap.size w0 W→Below w0.heap.size w0 (W.setCells g o vs)
 | [],_,_,h=>h
 | v :: r,o,W,h=>below_cells hg r (o+1) _ (below_set h hg)
theorem clear_row {P:Program} {w0 w W:World} {t ty:TypeId} {ok S:Nat→Prop} {A:Option Addr} {c:Nat} {xs:List Int} {i:Int}
  (ht:P.underlying t=some (.slice 2)) (hv:∀ w,(zeroValue 2).run P w = .ok (.int .i64 0) w)
  (h:Kd.R (Kd.int .i64) 2 W w0.heap.size ok (.slice A xs.length c) xs) (hs:∀ k,ok k→S k∨w.heap.size≤k) (h0:0≤i) (hi:i≤(xs.length:Int)) (HK:Kept w W S) (HB:Below w0.heap.size w0 W) :
  ∃ (W':World) (xs':List Int),(Builtin.clear_ #[t] ty #[.slice (if c=i.toNat then A else A.map (·.add (i.toNat*1))) (xs.length-i.toNat) (c-i.toNat)]).run P W = .ok (.tuple #[]) W' ∧
   xs'.length=xs.length∧xs'.take i.toNat=xs.take i.toNat∧Kd.R (Kd.int .i64) 2 W' w0.heap.size ok (.slice A xs.length c) xs'∧Kept w W' S∧Below w0.heap.size w0 W':=by
 by_cases hlt:i.toNat<xs.length
 ·obtain ⟨g,cap,he,hb,hl,cells,hc⟩:=Kd.R_form h (by omega)
  injection he with e1 _ e2
  subst e1 e2
  have hcap:=(Kd.R_reads' h).2.1
  rw [if_neg (by omega),Option.map_some,add_plain,Nat.mul_one]
  obtain ⟨xs',a,b,r⟩:=clear_cells (xs.length-i.toNat) i.toNat xs W h (by omega)
  have hS:=hs g (h.1 g rfl)
  have hel:∀ j,j<xs.length-i.toNat→(W.cell? ⟨g,i.toNat+j,none⟩).isSome=true∧W.frozen? ⟨g,i.toNat+j,none⟩=false:=fun j hj=>by
   obtain ⟨ce,hcl,hM,hcc,hfr⟩:=Kd.R_elem h (0:Int) ((i.toNat+j:Nat):Int) (by omega) (by omega)
   have h3:=hfr 0
   have hce:∃ v,ce[0]? = some v:=by
    cases ce with
    | nil=>simp [Kd.int,Kd.scalar] at hcl
    | cons v r=>exact ⟨v,rfl⟩
   obtain ⟨v,hv0⟩:=hce
   have h4:=hcc 0 v hv0
   have es:(Kd.int .i64).sz=1:=rfl
   rw [es,Int.toNat_natCast,Nat.mul_one,Nat.add_zero] at h3 h4
   exact ⟨by rw [h4];rfl,h3⟩
  refine ⟨_,xs',Lib.run_clear_slice W t 2 ty (.int .i64 0) ht hv rfl rfl g i.toNat (xs.length-i.toNat) (c-i.toNat) (by omega) (fun j hj=>(hel j hj).1) (fun j hj=>(hel j hj).2),a,b,r,kept_cells hS _ _ _ HK,below_cells hb _ _ _ HB⟩
 ·refine ⟨W,xs,?_,rfl,rfl,h,HK,HB⟩
  rw [show xs.length-i.toNat=0 by omega]
  generalize (if c=i.toNat then A else A.map (·.add (i.toNat*1)))=A'
  cases A' <;> simp [Builtin.clear_,run_underlying ht]

/-! ### slices_DeleteFunc_int64_int64_impl_places_1: function 46 -/
def slices_DeleteFunc_int64_int64_impl_places_1.l0:Nat→List Int→Int→Int→List Int→Option (List Int)
 | 0,_,_,_,_=>none
 | k+1,x0,x5,x6,x62000=>if x6<(x0.length:Int) then (if 0≤x6 then ((impl_places_1_cap.f k (rd x0 x6) x62000).bind fun t406=>(if t406=true then (slices_DeleteFunc_int64_int64_impl_places_1.l0 k x0 x5 (wrap64 (x6+1)) x62000) else (if 0≤x5 then (if x5<(x0.length:Int) then (slices_DeleteFunc_int64_int64_impl_places_1.l0 k (x0.set (x5:Int).toNat (rd x0 x6)) (wrap64 (x5+1)) (wrap64 (x6+1)) x62000) else (none)) else (none)))) else (none)) else (if 0≤x5 then (if x5≤(x0.length:Int) then (some (x0.take (x5:Int).toNat)) else (none)) else (none))
def slices_DeleteFunc_int64_int64_impl_places_1.f (k:Nat) (l0:List Int) (l1_0:List Int):Option (List Int):=(slices_IndexFunc_int64_int64_impl_places_1.f k l0 l1_0).bind fun t401=>(if t401=(-1) then (some l0) else (slices_DeleteFunc_int64_int64_impl_places_1.l0 k l0 t401 (wrap64 (t401+1)) l1_0))
theorem slices_DeleteFunc_int64_int64_impl_places_1.mono_l:∀ k,(∀ y0 y1 y2 y3,LeO (slices_DeleteFunc_int64_int64_impl_places_1.l0 k y0 y1 y2 y3) (slices_DeleteFunc_int64_int64_impl_places_1.l0 (k+1) y0 y1 y2 y3))
 | 0=>fun _ _ _ _ r h=>by simp [slices_DeleteFunc_int64_int64_impl_places_1.l0] at h
 | k+1=>by
  have ih0:=slices_DeleteFunc_int64_int64_impl_places_1.mono_l k
  ·intro y0 y1 y2 y3
   unfold slices_DeleteFunc_int64_int64_impl_places_1.l0
   repeat' first
   | (with_reducible exact ih0 _ _ _ _)
   | (with_reducible exact impl_places_1_cap.mono _ _ _)
   | (with_reducible exact slices_IndexFunc_int64_int64_impl_places_1.mono _ _ _)
   | (with_reducible exact LeO.refl _)
   | (with_reducible exact LeO.none _)
   | (with_reducible refine LeO.ite ?_ ?_)
   | (with_reducible refine LeO.bind ?_ (fun _=>?_))
   | exact ih0 _ _ _ _
   | exact impl_places_1_cap.mono _ _ _
   | exact slices_IndexFunc_int64_int64_impl_places_1.mono _ _ _
   | exact LeO.none _
   | refine LeO.ite ?_ ?_
   | refine LeO.bind ?_ (fun _=>?_)
theorem slices_DeleteFunc_int64_int64_impl_places_1.mono:∀ a0 a1 k,LeO (slices_DeleteFunc_int64_int64_impl_places_1.f k a0 a1) (slices_DeleteFunc_int64_int64_impl_places_1.f (k+1) a0 a1):=by
 intro a0 a1 k
 have ih0:=slices_DeleteFunc_int64_int64_impl_places_1.mono_l k
 unfold slices_DeleteFunc_int64_int64_impl_places_1.f
 repeat' first
   | (with_reducible exact ih0 _ _ _ _)
   | (with_reducible exact impl_places_1_cap.mono _ _ _)
   | (with_reducible exact slices_IndexFunc_int64_int64_impl_places_1.mono _ _ _)
   | (with_reducible exact LeO.refl _)
   | (with_reducible exact LeO.none _)
   | (with_reducible refine LeO.ite ?_ ?_)
   | (with_reducible refine LeO.bind ?_ (fun _=>?_))
   | exact ih0 _ _ _ _
   | exact impl_places_1_cap.mono _ _ _
   | exact slices_IndexFunc_int64_int64_impl_places_1.mono _ _ _
   | exact LeO.none _
   | refine LeO.ite ?_ ?_
   | refine LeO.bind ?_ (fun _=>?_)
set_option maxHeartbeats 8000000 in
set_option maxRecDepth 100000 in
theorem slices_DeleteFunc_int64_int64_impl_places_1.calls (k:Nat) (P0_:Nat→Prop) (u9000_:Value) (l0:List Int) (gb1:Nat) (A1_0:Option Addr) (c1_0:Nat) (l1_0:List Int) (r:List Int) (w0 w:World) (hB:Below w0.heap.size w0 w) (ho0:Kd.R (Kd.int .i64) 2 w w0.heap.size P0_ u9000_ l0) (hr1_0:∀ W_,Kept w W_ (fun k_=>P0_ k_)→Kd.C (Kd.int .i64) W_ A1_0 l1_0.length l1_0) (hc1_0:l1_0.length≤c1_0) (hk1:w.heap[gb1]? = some (.cells #[.slice A1_0 l1_0.length c1_0] 26 (0,0))) (h:slices_DeleteFunc_int64_int64_impl_places_1.f k l0 l1_0=some r) :
  Calls Tryd.prog 46 #[u9000_,.func (.func 52) #[] #[.pointer (some ⟨gb1,0,none⟩)]] w fun e w'=>∃ v0_:Value,e = .returned (v0_)∧Kd.R (Kd.int .i64) 2 w' w0.heap.size (fun k_=>(P0_ k_∨w.heap.size≤k_)) v0_ r∧Below w0.heap.size w0 w'∧Kept w w' (fun k_=>P0_ k_):=by
 have HO0:=Aside0.mk (show Kd.R (Kd.int .i64) 2 w w0.heap.size (fun k_=>(P0_ k_∨w.heap.size≤k_)) u9000_ l0 from Kd.R_mono ho0 (fun k_ hk=>(.inl hk)))
 have HR1_0:=Aside0.mk hr1_0
 have HC1_0:=Aside0.mk hc1_0
 clear hr1_0 hc1_0
 have BK61:=Aside0.mk hk1
 clear hk1
 have HK:=Aside0.mk (Kept.refl w (fun k_=>P0_ k_))
 have HW0:=Aside0.mk hB.size
 have HB:=Aside0.mk hB
 clear hB
 have H:((slices_IndexFunc_int64_int64_impl_places_1.f k l0 l1_0).bind fun t401=>(if t401=(-1) then (some l0) else (slices_DeleteFunc_int64_int64_impl_places_1.l0 k l0 t401 (wrap64 (t401+1)) l1_0)))=some r:=h
 clear h
 replace H:=Option.bind_eq_some_iff.mp H
 obtain ⟨t401,A30,H⟩:=H
 replace H:(if t401=(-1) then (some l0) else (slices_DeleteFunc_int64_int64_impl_places_1.l0 k l0 t401 (wrap64 (t401+1)) l1_0))=some r:=H
 have A3:=Aside0.mk A30
 clear A30
 by_cases c4:t401=(-1)
 ·rw [if_pos c4] at H
  have c4b0:(t401 == (-1))=true:=beq_iff_eq.mpr c4
  have c4b1:(t401 != (-1))=false:=bne_eq_false_iff_eq.mpr c4
  clear c4
  obtain rfl:=Option.some.inj H
  obtain ⟨Ao5,co5,eo5⟩:=Kd.R_slice HO0.out
  subst eo5
  go_enter Tryd.func46,Tryd.ntmps46
  go_wp2_with (first | ((with_reducible refine gc_ 64 ?_);refine gl_ (some 10) Tryd.func64 #[.slice Ao5 l0.length co5,.func (.func 52) #[] #[.pointer (some ⟨gb1,0,none⟩)]] ?_;(with_reducible refine (slices_IndexFunc_int64_int64_impl_places_1.calls k _ _ l0 gb1 A1_0 c1_0 l1_0 t401 _ ?s1 ?s2 ?s3 ?s4 ?s5 A3.out).mono ?_);(case s1=>repeat (first | exact (Kd.R_reads' HO0.out).2.2 | (with_reducible refine Kd.C_alloc ?_ _) | (with_reducible refine Kd.C_drewN ?_ _) | (with_reducible refine Kd.C_drew ?_)));(case s2=>exact (Kd.R_reads' HO0.out).2.1);(case s3=>repeat (first | exact (HR1_0.out _ HK.out) | (with_reducible refine Kd.C_alloc ?_ _) | (with_reducible refine Kd.C_drewN ?_ _) | (with_reducible refine Kd.C_drew ?_)));(case s4=>exact HC1_0.out);(case s5=>(with_reducible repeat (first | refine blk_drewN ?_ _ | refine blk_drew ?_ | refine blk_alloc ?_ _));exact BK61.out);rintro e w6 ⟨rfl,hb⟩;refine ⟨_,rfl,?_⟩;refine as4_ (Kd.R_below (z2_ HO0.out) hb) (blkB_ BK61.out hb) (Kept.below (S:=(fun k_=>P0_ k_)) (by repeat (first | (with_reducible first | exact HK.out | apply Kept.alloc | apply Kept.drewN | apply Kept.drew | refine Kept.setCell ?_ (.inr GW61.out) _) | exact HK.out)) hb) (below_step (by repeat (first | (with_reducible first | exact HB.out | apply below_alloc | apply pw_below_drewN | apply below_drew1 | refine below_set ?_ GE61.out) | exact HB.out)) hb) ?_;clear HO0 BK61 HK HB;intro HO0 BK61 HK HB;(try clear hb)))
  go_ret
  exact ⟨_,z10_,z2_ HO0.out,by repeat (first | (with_reducible first | exact HB.out | apply below_alloc | apply pw_below_drewN | apply below_drew1 | refine below_set ?_ GE61.out) | exact HB.out),by repeat (first | (with_reducible first | exact HK.out | apply Kept.alloc | apply Kept.drewN | apply Kept.drew | refine Kept.setCell ?_ (.inr GW61.out) _) | exact HK.out)⟩
 ·rw [if_neg c4] at H
  have c4b0:(t401 == (-1))=false:=beq_eq_false_iff_ne.mpr c4
  have c4b1:(t401 != (-1))=true:=bne_iff_ne.mpr c4
  have H':=Aside0.mk H
  clear H
  obtain ⟨Ao7,co7,eo7⟩:=Kd.R_slice HO0.out
  subst eo7
  go_enter Tryd.func46,Tryd.ntmps46
  go_wp2_with (first | ((with_reducible refine gc_ 64 ?_);refine gl_ (some 10) Tryd.func64 #[.slice Ao7 l0.length co7,.func (.func 52) #[] #[.pointer (some ⟨gb1,0,none⟩)]] ?_;(with_reducible refine (slices_IndexFunc_int64_int64_impl_places_1.calls k _ _ l0 gb1 A1_0 c1_0 l1_0 t401 _ ?s1 ?s2 ?s3 ?s4 ?s5 A3.out).mono ?_);(case s1=>repeat (first | exact (Kd.R_reads' HO0.out).2.2 | (with_reducible refine Kd.C_alloc ?_ _) | (with_reducible refine Kd.C_drewN ?_ _) | (with_reducible refine Kd.C_drew ?_)));(case s2=>exact (Kd.R_reads' HO0.out).2.1);(case s3=>repeat (first | exact (HR1_0.out _ HK.out) | (with_reducible refine Kd.C_alloc ?_ _) | (with_reducible refine Kd.C_drewN ?_ _) | (with_reducible refine Kd.C_drew ?_)));(case s4=>exact HC1_0.out);(case s5=>(with_reducible repeat (first | refine blk_drewN ?_ _ | refine blk_drew ?_ | refine blk_alloc ?_ _));exact BK61.out);rintro e w8 ⟨rfl,hb⟩;refine ⟨_,rfl,?_⟩;refine as4_ (Kd.R_below (z2_ HO0.out) hb) (blkB_ BK61.out hb) (Kept.below (S:=(fun k_=>P0_ k_)) (by repeat (first | (with_reducible first | exact HK.out | apply Kept.alloc | apply Kept.drewN | apply Kept.drew | refine Kept.setCell ?_ (.inr GW61.out) _) | exact HK.out)) hb) (below_step (by repeat (first | (with_reducible first | exact HB.out | apply below_alloc | apply pw_below_drewN | apply below_drew1 | refine below_set ?_ GE61.out) | exact HB.out)) hb) ?_;clear HO0 BK61 HK HB;intro HO0 BK61 HK HB;(try clear hb)))
  go_loopg [5,6] k (fun kq v5 v6 w'=>∃ (x0_1:List Int) (x5_1:Int) (x6_1:Int),v5 = .int .i64 x5_1∧v6 = .int .i64 x6_1∧Aside0 (slices_DeleteFunc_int64_int64_impl_places_1.l0 kq x0_1 x5_1 x6_1 l1_0=some r)∧Aside0 (kq≤k)∧Aside0 (Kd.R (Kd.int .i64) 2 w' w0.heap.size (fun k_=>(P0_ k_∨w.heap.size≤k_)) (.slice Ao7 l0.length co7) x0_1)∧Aside0 (w'.heap[gb1]? = some (.cells #[(.slice A1_0 l1_0.length c1_0)] 26 (0,0)))∧Aside0 (Kept w w' (fun k_=>P0_ k_))∧Aside0 (Below w0.heap.size w0 w'))
  case atStart=>exact ⟨(l0),(t401),(wrap64 (t401+1)),(z1_),(z1_),H',⟨Nat.le_refl _⟩,⟨z2_ HO0.out⟩,⟨z3_ BK61.out⟩,⟨by repeat (first | (with_reducible first | exact HK.out | apply Kept.alloc | apply Kept.drewN | apply Kept.drew | refine Kept.setCell ?_ (.inr GW61.out) _) | exact HK.out)⟩,⟨by repeat (first | (with_reducible first | exact HB.out | apply below_alloc | apply pw_below_drewN | apply below_drew1 | refine below_set ?_ GE61.out) | exact HB.out)⟩⟩
  case round =>
   clear H'
   try clear c1
   try clear p2
   try clear c4
   try clear c4b0
   try clear c4b1
   try clear p6
   try clear c7
   obtain ⟨x0_1,x5_1,x6_1,rfl,rfl,HA,HK1,HO_0,BK61,HK,HB⟩:=hrel
   have hl0_1:=(Kd.R_reads' HO_0.out).1
   rw [hl0_1] at HO_0
   (try simp only [hl0_1])
   (try simp only [hl0_1] at BK61)
   cases gk with
   | zero=>exact absurd HA.out (by simp [slices_DeleteFunc_int64_int64_impl_places_1.l0])
   | succ k1 =>
    have H:=HA.out
    clear HA
    simp only [slices_DeleteFunc_int64_int64_impl_places_1.l0] at H
    by_cases c9:x6_1<(x0_1.length:Int)
    ·rw [if_pos c9] at H
     have c9b0:decide (x6_1<(x0_1.length:Int))=true:=decide_eq_true c9
     clear c9
     by_cases c10:0≤x6_1
     ·rw [if_pos c10] at H
      have c10b0:decide (0≤x6_1)=true:=decide_eq_true c10
      clear c10
      replace H:=Option.bind_eq_some_iff.mp H
      obtain ⟨t406,A110,H⟩:=H
      replace H:(if t406=true then (slices_DeleteFunc_int64_int64_impl_places_1.l0 k1 x0_1 x5_1 (wrap64 (x6_1+1)) l1_0) else (if 0≤x5_1 then (if x5_1<(x0_1.length:Int) then (slices_DeleteFunc_int64_int64_impl_places_1.l0 k1 (x0_1.set (x5_1:Int).toNat (rd x0_1 x6_1)) (wrap64 (x5_1+1)) (wrap64 (x6_1+1)) l1_0) else (none)) else (none)))=some r:=H
      have A11:=Aside0.mk A110
      clear A110
      by_cases c12:t406=true
      ·subst c12
       have H1:(slices_DeleteFunc_int64_int64_impl_places_1.l0 k1 x0_1 x5_1 (wrap64 (x6_1+1)) l1_0)=some r:=by rw [if_pos rfl] at H;exact H
       clear H
       have H:=H1
       clear H1
       have H':=Aside0.mk H
       clear H
       have p405:0≤(x6_1:Int):=of_decide_eq_true (z0_)
       have q405:x6_1<(x0_1.length:Int):=of_decide_eq_true (z0_)
       obtain ⟨ad405,e405,hx405_0⟩:=Kd.at_int (Kd.R_reads' HO_0.out).2.2 x6_1 p405 q405
       cases e405
       replace p405:=eq_true p405
       replace q405:=eq_true q405
       go_wp2_with (first | (go_at_call 52;(with_reducible refine (impl_places_1_cap.calls k1 (rd x0_1 x6_1) gb1 A1_0 c1_0 l1_0 true _ ?s1 ?s2 ?s3 A11.out).mono ?_);(case s1=>repeat (first | exact (HR1_0.out _ HK.out) | (with_reducible refine Kd.C_alloc ?_ _) | (with_reducible refine Kd.C_drewN ?_ _) | (with_reducible refine Kd.C_drew ?_)));(case s2=>exact HC1_0.out);(case s3=>(with_reducible repeat (first | refine blk_drewN ?_ _ | refine blk_drew ?_ | refine blk_alloc ?_ _));exact BK61.out);rintro e w13 ⟨rfl,hb⟩;refine as4_ (Kd.R_below (z2_ HO_0.out) hb) (blkB_ BK61.out hb) (Kept.below (S:=(fun k_=>P0_ k_)) (by repeat (first | (with_reducible first | exact HK.out | apply Kept.alloc | apply Kept.drewN | apply Kept.drew | refine Kept.setCell ?_ (.inr GW61.out) _) | exact HK.out)) hb) (below_step (by repeat (first | (with_reducible first | exact HB.out | apply below_alloc | apply pw_below_drewN | apply below_drew1 | refine below_set ?_ GE61.out) | exact HB.out)) hb) ?_;clear HO_0 BK61 HK HB;intro HO_0 BK61 HK HB;(try clear hb)))
       (try simp only [← hl0_1])
       go_roundg k1
       case measure=>have:=HK1.out;omega
       case rel=>exact ⟨(x0_1),(x5_1),(wrap64 (x6_1+1)),(z1_),(z1_),H',⟨by have:=HK1.out;omega⟩,⟨z19_ HO_0.out⟩,⟨by (try simp only [hl0_1]);(with_reducible repeat (first | refine blk_drewN ?_ _ | refine blk_drew ?_ | refine blk_alloc ?_ _));exact BK61.out⟩,⟨by repeat (first | (with_reducible first | exact HK.out | apply Kept.alloc | apply Kept.drewN | apply Kept.drew | refine Kept.setCell ?_ (.inr GW61.out) _) | exact HK.out)⟩,⟨by repeat (first | (with_reducible first | exact HB.out | apply below_alloc | apply pw_below_drewN | apply below_drew1 | refine below_set ?_ GE61.out) | exact HB.out)⟩⟩
      ·replace c12:=Bool.eq_false_iff.mpr c12
       subst c12
       have H1:(if 0≤x5_1 then (if x5_1<(x0_1.length:Int) then (slices_DeleteFunc_int64_int64_impl_places_1.l0 k1 (x0_1.set (x5_1:Int).toNat (rd x0_1 x6_1)) (wrap64 (x5_1+1)) (wrap64 (x6_1+1)) l1_0) else (none)) else (none))=some r:=by rw [if_neg (show ¬ (false=true) by decide)] at H;exact H
       clear H
       have H:=H1
       clear H1
       by_cases c14:0≤x5_1
       ·rw [if_pos c14] at H
        have c14b0:decide (0≤x5_1)=true:=decide_eq_true c14
        clear c14
        by_cases c15:x5_1<(x0_1.length:Int)
        ·rw [if_pos c15] at H
         have c15b0:decide (x5_1<(x0_1.length:Int))=true:=decide_eq_true c15
         clear c15
         obtain ⟨y407,hy407⟩:∃ y_:List Int,y_=(x0_1.set (x5_1:Int).toNat (rd x0_1 x6_1)):=⟨_,rfl⟩
         replace H:(slices_DeleteFunc_int64_int64_impl_places_1.l0 k1 y407 (wrap64 (x5_1+1)) (wrap64 (x6_1+1)) l1_0)=some r:=by first | (rw [hy407];with_reducible exact H) | (have H2_:=(Option.bind_some _ _).symm.trans H;rw [hy407];with_reducible exact H2_) | (have H2_:=(Option.bind_some _ _).symm.trans H;with_reducible exact H2_) | with_reducible exact H | (rw [hy407];exact H) | exact H
         have Ny407:=Aside0.mk hy407
         clear hy407
         have H':=Aside0.mk H
         clear H
         have p405:0≤(x6_1:Int):=of_decide_eq_true (z0_)
         have q405:x6_1<(x0_1.length:Int):=of_decide_eq_true (z0_)
         obtain ⟨ad405,e405,hx405_0⟩:=Kd.at_int (Kd.R_reads' HO_0.out).2.2 x6_1 p405 q405
         cases e405
         replace p405:=eq_true p405
         replace q405:=eq_true q405
         go_wp2_with (first | (go_at_call 52;(with_reducible refine (impl_places_1_cap.calls k1 (rd x0_1 x6_1) gb1 A1_0 c1_0 l1_0 false _ ?s1 ?s2 ?s3 A11.out).mono ?_);(case s1=>repeat (first | exact (HR1_0.out _ HK.out) | (with_reducible refine Kd.C_alloc ?_ _) | (with_reducible refine Kd.C_drewN ?_ _) | (with_reducible refine Kd.C_drew ?_)));(case s2=>exact HC1_0.out);(case s3=>(with_reducible repeat (first | refine blk_drewN ?_ _ | refine blk_drew ?_ | refine blk_alloc ?_ _));exact BK61.out);rintro e w17 ⟨rfl,hb⟩;refine as4_ (Kd.R_below (z2_ HO_0.out) hb) (blkB_ BK61.out hb) (Kept.below (S:=(fun k_=>P0_ k_)) (by repeat (first | (with_reducible first | exact HK.out | apply Kept.alloc | apply Kept.drewN | apply Kept.drew | refine Kept.setCell ?_ (.inr GW61.out) _) | exact HK.out)) hb) (below_step (by repeat (first | (with_reducible first | exact HB.out | apply below_alloc | apply pw_below_drewN | apply below_drew1 | refine below_set ?_ GE61.out) | exact HB.out)) hb) ?_;clear HO_0 BK61 HK HB;intro HO_0 BK61 HK HB;(try clear hb);have p16:0≤(x5_1:Int):=of_decide_eq_true (z0_);have q16:(x5_1:Int)<((x0_1.length:Int):Int):=of_decide_eq_true (z0_);obtain ⟨go16,co16,eo16,gb16,gl16,cl16,HG16⟩:=Kd.R_form HO_0.out (by omega);(first | cases eo16 | (injection eo16 with ea_ en_ ec_;(first | subst ea_ | (injection ea_ with ea_;subst ea_));subst ec_;clear en_));have GB16:=Aside0.mk gb16;have GG16:=Aside0.mk HG16;clear gb16 gl16 HG16;have HMgo16:=Aside0.mk (show (P0_ go16∨w.heap.size≤go16) from (HO_0.out.1 _ rfl));(first | simp only [add_plain] at hx405_0 | skip);obtain ⟨hx16_0,hf16_0⟩:=Kd.R_celln 0 HO_0.out (x5_1:Int) p16 q16;replace p16:=eq_true p16;replace q16:=eq_true q16;obtain ⟨hy18_,hz18_⟩:=Kd.R_celln 0 HO_0.out (x5_1:Int) (of_decide_eq_true (z0_)) (of_decide_eq_true (z0_));have HP18:=Kd.R_putg HO_0.out (x5_1:Int) (rd x0_1 x6_1)) | ((with_reducible refine gate_store (t:=2) (p:=33) rfl ?_);refine store_event (t:=2) (p:=33) (v:=?vo_w19) (w1:=(w17.setCell ⟨go16,(x5_1:Int).toNat,none⟩ (.int .i64 (rd x0_1 x6_1)))) ?hg ?ho ?hn ?hr ?_;(case ho=>rfl);(case hg=>rfl);(case hn=>rfl);(case hr=>first | (go_simp;done) | (go_simp;rfl));intro w19 hw;have hg:w17.grownBy w19 (some go16):=(by rw [hw];exact HP18.2);have hp_:Kd.R (Kd.int .i64) 2 w19 w0.heap.size (fun k_=>(P0_ k_∨w.heap.size≤k_)) (.slice (some ⟨go16,0,none⟩) x0_1.length co7) y407:=(by rw [hw,Ny407.out];exact HP18.1);clear HP18;refine as4_ (hp_) (blk_grown (g:=gb1) (o:=.cells #[.slice A1_0 l1_0.length c1_0] 26 (0,0)) (z3_ BK61.out) hg (Kd.R_ne HO_0.out BK61.out (by decide))) ((by rw [hw];exact below_set (HB.out) GB16.out:Below w0.heap.size w0 w19)) (Kept.of_grown (S:=(fun k_=>P0_ k_)) hg (by repeat (first | (with_reducible first | exact HK.out | apply Kept.alloc | apply Kept.drewN | apply Kept.drew | refine Kept.setCell ?_ (.inr GW61.out) _) | exact HK.out)) (fun k_ e_=>(HO_0.out.1 k_ e_))) ?_;clear HO_0 BK61 HB HK;intro HO_0 BK61 HB HK;clear hg hw hp_))
         (try simp only [← hl0_1])
         go_roundg k1
         case measure=>have:=HK1.out;omega
         case rel=>exact ⟨(y407),(wrap64 (x5_1+1)),(wrap64 (x6_1+1)),(z1_),(z1_),H',⟨by have:=HK1.out;omega⟩,⟨z19_ HO_0.out⟩,⟨by (try simp only [hl0_1]);(with_reducible repeat (first | refine blk_drewN ?_ _ | refine blk_drew ?_ | refine blk_alloc ?_ _));exact BK61.out⟩,⟨by repeat (first | (with_reducible first | exact HK.out | apply Kept.alloc | apply Kept.drewN | apply Kept.drew | refine Kept.setCell ?_ (.inr GW61.out) _) | exact HK.out)⟩,⟨by repeat (first | (with_reducible first | exact HB.out | apply below_alloc | apply pw_below_drewN | apply below_drew1 | refine below_set ?_ GE61.out) | exact HB.out)⟩⟩
        ·rw [if_neg c15] at H
         exact absurd H (by simp)
       ·rw [if_neg c14] at H
        exact absurd H (by simp)
     ·rw [if_neg c10] at H
      exact absurd H (by simp)
    ·rw [if_neg c9] at H
     have c9b0:decide (x6_1<(x0_1.length:Int))=false:=decide_eq_false c9
     clear c9
     by_cases c20:0≤x5_1
     ·rw [if_pos c20] at H
      have c20b0:=eq_true c20
      have c20b1:decide (0≤x5_1)=true:=decide_eq_true c20
      clear c20
      by_cases c21:x5_1≤(x0_1.length:Int)
      ·rw [if_pos c21] at H
       have c21b0:=eq_true c21
       have c21b1:decide (x5_1≤(x0_1.length:Int))=true:=decide_eq_true c21
       clear c21
       obtain ⟨y402,hy402⟩:∃ y_:List Int,y_=(x0_1.take (x5_1:Int).toNat):=⟨_,rfl⟩
       replace H:(some y402)=some r:=by first | (rw [hy402];with_reducible exact H) | (have H2_:=(Option.bind_some _ _).symm.trans H;rw [hy402];with_reducible exact H2_) | (have H2_:=(Option.bind_some _ _).symm.trans H;with_reducible exact H2_) | with_reducible exact H | (rw [hy402];exact H) | exact H
       have Ny402:=Aside0.mk hy402
       clear hy402
       obtain rfl:=Option.some.inj H
       have q22:(x5_1:Int)≤((x0_1.length:Int):Int):=of_decide_eq_true (z0_)
       obtain ⟨i022,hi022,_,hsz22,_⟩:=info_parts info2
       have hge_:(0:Int)≤x5_1:=of_decide_eq_true (z0_)
       have hcutc_:=cut_from (P:=Tryd.prog) 26 2 .i64 Tryd.underlying26 hi022 1 hsz22 Ao7 x0_1.length co7 x5_1 hge_ q22
       obtain ⟨wz_,xz_,hclr_,hlz_,htz_,hRz_,hKz_,hBz_⟩:=clear_row (P:=Tryd.prog) (ty:=0) Tryd.underlying26 (fun _=>by kernel_rfl) HO_0.out (fun _ hk=>hk) hge_ q22 HK.out HB.out
       obtain ⟨Az_,hAz_⟩:∃ A1,A1=(if co7=(x5_1:Int).toNat then Ao7 else (Ao7:Option Addr).map (·.add ((x5_1:Int).toNat*1))):=⟨_,rfl⟩
       obtain ⟨cz_,hcz_⟩:∃ c1,c1=co7-(x5_1:Int).toNat:=⟨_,rfl⟩
       obtain ⟨nz_,hnz_⟩:∃ n1,n1=x0_1.length-(x5_1:Int).toNat:=⟨_,rfl⟩
       rw [← hAz_,← hcz_,← hnz_] at hclr_
       rw [Nat.mul_one] at hAz_
       clear hcutc_
       have hA0_:=Aside0.mk hAz_
       have hc0_:=Aside0.mk hcz_
       have hn0_:=Aside0.mk hnz_
       clear hAz_ hcz_ hnz_
       have hcut22:=cut_to (P:=Tryd.prog) 26 2 .i64 Tryd.underlying26 hi022 Ao7 x0_1.length co7 x5_1 (of_decide_eq_true (z0_)) q22 (Kd.R_reads' HO_0.out).2.1
       have hr22:=Kd.R_take (m:=(x5_1:Int).toNat) hRz_ (by rw [hlz_];omega)
       rw [htz_] at hr22
       have hy22:y402.length=(x5_1:Int).toNat:=(by rw [Ny402.out,List.length_take];omega)
       rw [← Ny402.out] at hr22
       rw [← hy22] at hr22 hcut22
       clear hy22 hi022 hsz22 HO_0
       have HO404:=Aside0.mk hr22
       clear hr22
       replace q22:=eq_true q22
       go_wp2_with (first | ((with_reducible refine gd_ 38 ?_);refine Kd.event_run ?hg (v:=.slice Az_ nz_ cz_) (w1:=wr) ?hr ?_;(case hg=>rfl);(case hr=>first | (go_simp;done) | (go_simp;rw [hA0_.out,hc0_.out,hn0_.out];done) | (rw [hA0_.out,hc0_.out,hn0_.out];go_simp;first | done | rfl))) | ((with_reducible refine gate_builtin (b:=.clear) (xs:=#[.tmp 38]) rfl ?_);refine Kd.event_run ?hg (v:=.tuple #[]) (w1:=wz_) ?hr ?_;(case hg=>rfl);(case hr=>first | (go_simp;done) | (go_simp;rfl))))
       clear HB HK
       have HB:=Aside0.mk hBz_
       have HK:=Aside0.mk hKz_
       go_ret
       exact ⟨_,z10_,z2_ HO404.out,by repeat (first | (with_reducible first | exact HB.out | apply below_alloc | apply pw_below_drewN | apply below_drew1 | refine below_set ?_ GE61.out) | exact HB.out),by repeat (first | (with_reducible first | exact HK.out | apply Kept.alloc | apply Kept.drewN | apply Kept.drew | refine Kept.setCell ?_ (.inr GW61.out) _) | exact HK.out)⟩
      ·rw [if_neg c21] at H
       exact absurd H (by simp)
     ·rw [if_neg c20] at H
      exact absurd H (by simp)


/-! ### impl_places: function 34 -/
def impl_places.l0:Nat→List Int→List (S56)→List Int→Int→Int→List Int→Option ((List (S56)))
 | 0,_,_,_,_,_,_=>none
 | k+1,x11,x12,x31,x32,x33,x410000=>if x33<x32 then (if 0≤x33 then (if x33<(x31.length:Int) then ((slices_Contains_int64_int64.f k x410000 (rd x31 x33)).bind fun t428=>(if t428=true then (if (x11.length:Int)>0 then (if 0<(x11.length:Int) then (if x12.length<8796093022208 then (if 1≤(x11.length:Int) then (impl_places.l0 k (x11.drop (1:Int).toNat) (x12 ++ [(⟨rd x11 0,rd x31 x33⟩:S56)]) x31 x32 (wrap64 (x33+1)) x410000) else (none)) else (none)) else (none)) else (impl_places.l0 k x11 x12 x31 x32 (wrap64 (x33+1)) x410000)) else (if x12.length<8796093022208 then (impl_places.l0 k x11 (x12 ++ [(⟨rd x31 x33,rd x31 x33⟩:S56)]) x31 x32 (wrap64 (x33+1)) x410000) else (none)))) else (none)) else (none)) else (some x12)
def impl_places.f (k:Nat) (a0_0:Int) (l0_1:List (S59)) (a1:ByteArray) (a2:Int) (l3:List Int):Option ((List (S56))):=(impl_order.f k a0_0 l0_1 a1).bind fun t410=>(if 0≤(mn a2 (t410.length:Int)) then (if (mn a2 (t410.length:Int))≤(t410.length:Int) then ((some (t410.take ((mn a2 (t410.length:Int)):Int).toNat:List Int)).bind fun y413=>(if 0≤(y413.length:Int) then (if (y413.length:Int)≤(t410.length:Int) then ((slices_Clone_int64_int64.f (t410.drop ((y413.length:Int):Int).toNat)).bind fun t421=>((slices_DeleteFunc_int64_int64_impl_places_1.f k t421 l3).bind fun t424=>(impl_places.l0 k t424 ([]:List (S56)) y413 (y413.length:Int) 0 l3))) else (none)) else (none))) else (none)) else (none))
theorem impl_places.mono_l:∀ k,(∀ y0 y1 y2 y3 y4 y5,LeO (impl_places.l0 k y0 y1 y2 y3 y4 y5) (impl_places.l0 (k+1) y0 y1 y2 y3 y4 y5))
 | 0=>fun _ _ _ _ _ _ r h=>by simp [impl_places.l0] at h
 | k+1=>by
  have ih0:=impl_places.mono_l k
  ·intro y0 y1 y2 y3 y4 y5
   unfold impl_places.l0
   repeat' first
   | (with_reducible exact ih0 _ _ _ _ _ _)
   | (with_reducible exact impl_order.mono _ _ _ _)
   | (with_reducible exact slices_Contains_int64_int64.mono _ _ _)
   | (with_reducible exact slices_DeleteFunc_int64_int64_impl_places_1.mono _ _ _)
   | (with_reducible exact LeO.refl _)
   | (with_reducible exact LeO.none _)
   | (with_reducible refine LeO.ite ?_ ?_)
   | (with_reducible refine LeO.bind ?_ (fun _=>?_))
   | exact ih0 _ _ _ _ _ _
   | exact impl_order.mono _ _ _ _
   | exact slices_Contains_int64_int64.mono _ _ _
   | exact slices_DeleteFunc_int64_int64_impl_places_1.mono _ _ _
   | exact LeO.none _
   | refine LeO.ite ?_ ?_
   | refine LeO.bind ?_ (fun _=>?_)
theorem impl_places.mono:∀ a0 a1 a2 a3 a4 k,LeO (impl_places.f k a0 a1 a2 a3 a4) (impl_places.f (k+1) a0 a1 a2 a3 a4):=by
 intro a0 a1 a2 a3 a4 k
 have ih0:=impl_places.mono_l k
 unfold impl_places.f
 repeat' first
   | (with_reducible exact ih0 _ _ _ _ _ _)
   | (with_reducible exact impl_order.mono _ _ _ _)
   | (with_reducible exact slices_Contains_int64_int64.mono _ _ _)
   | (with_reducible exact slices_DeleteFunc_int64_int64_impl_places_1.mono _ _ _)
   | (with_reducible exact LeO.refl _)
   | (with_reducible exact LeO.none _)
   | (with_reducible refine LeO.ite ?_ ?_)
   | (with_reducible refine LeO.bind ?_ (fun _=>?_))
   | exact ih0 _ _ _ _ _ _
   | exact impl_order.mono _ _ _ _
   | exact slices_Contains_int64_int64.mono _ _ _
   | exact slices_DeleteFunc_int64_int64_impl_places_1.mono _ _ _
   | exact LeO.none _
   | refine LeO.ite ?_ ?_
   | refine LeO.bind ?_ (fun _=>?_)
set_option maxHeartbeats 8000000 in
set_option maxRecDepth 100000 in
theorem impl_places.calls (k:Nat) (a0_0:Int) (A0_1:Option Addr) (c0_1:Nat) (l0_1:List (S59)) (a1:ByteArray) (a2:Int) (A3:Option Addr) (c3:Nat) (l3:List Int) (r:List (S56)) (w:World) (hr0_1:Kd.C k59 w A0_1 l0_1.length l0_1) (hc0_1:l0_1.length≤c0_1) (hr3:Kd.C (Kd.int .i64) w A3 l3.length l3) (hc3:l3.length≤c3) (h:impl_places.f k a0_0 l0_1 a1 a2 l3=some r) :
  Calls Tryd.prog 34 #[.agg #[.int .i64 a0_0,.slice A0_1 l0_1.length c0_1],.string a1,.int .i64 a2,.slice A3 l3.length c3] w fun e w'=>∃ v0_:Value,e = .returned (v0_)∧Kd.R k56 56 w' w.heap.size (fun _=>True) v0_ r∧Below w.heap.size w w':=by
 have hu30:=Tryd.underlying30
 have hu56:=Tryd.underlying56
 have HR0_1:=Aside0.mk hr0_1
 have HC0_1:=Aside0.mk hc0_1
 clear hr0_1 hc0_1
 have HR3:=Aside0.mk hr3
 have HC3:=Aside0.mk hc3
 clear hr3 hc3
 have HB:=Aside0.mk (Below.refl w.heap.size w)
 have H:((impl_order.f k a0_0 l0_1 a1).bind fun t410=>(if 0≤(mn a2 (t410.length:Int)) then (if (mn a2 (t410.length:Int))≤(t410.length:Int) then ((some (t410.take ((mn a2 (t410.length:Int)):Int).toNat:List Int)).bind fun y413=>(if 0≤(y413.length:Int) then (if (y413.length:Int)≤(t410.length:Int) then ((slices_Clone_int64_int64.f (t410.drop ((y413.length:Int):Int).toNat)).bind fun t421=>((slices_DeleteFunc_int64_int64_impl_places_1.f k t421 l3).bind fun t424=>(impl_places.l0 k t424 ([]:List (S56)) y413 (y413.length:Int) 0 l3))) else (none)) else (none))) else (none)) else (none)))=some r:=h
 clear h
 replace H:=Option.bind_eq_some_iff.mp H
 obtain ⟨t410,A50,H⟩:=H
 replace H:(if 0≤(mn a2 (t410.length:Int)) then (if (mn a2 (t410.length:Int))≤(t410.length:Int) then ((some (t410.take ((mn a2 (t410.length:Int)):Int).toNat:List Int)).bind fun y413=>(if 0≤(y413.length:Int) then (if (y413.length:Int)≤(t410.length:Int) then ((slices_Clone_int64_int64.f (t410.drop ((y413.length:Int):Int).toNat)).bind fun t421=>((slices_DeleteFunc_int64_int64_impl_places_1.f k t421 l3).bind fun t424=>(impl_places.l0 k t424 ([]:List (S56)) y413 (y413.length:Int) 0 l3))) else (none)) else (none))) else (none)) else (none))=some r:=H
 have A5:=Aside0.mk A50
 clear A50
 obtain ⟨ji6,hji6⟩:∃ j_:Int,(mn a2 (t410.length:Int))=j_:=⟨_,rfl⟩
 replace H:(if 0≤(ji6) then (if (ji6)≤(t410.length:Int) then ((some (t410.take ((ji6):Int).toNat:List Int)).bind fun y413=>(if 0≤(y413.length:Int) then (if (y413.length:Int)≤(t410.length:Int) then ((slices_Clone_int64_int64.f (t410.drop ((y413.length:Int):Int).toNat)).bind fun t421=>((slices_DeleteFunc_int64_int64_impl_places_1.f k t421 l3).bind fun t424=>(impl_places.l0 k t424 ([]:List (S56)) y413 (y413.length:Int) 0 l3))) else (none)) else (none))) else (none)) else (none))=some r:=by first | (rw [hji6] at H;exact H) | (simp only [hji6] at H ⊢;exact H)
 (try rw [hji6] at A5)
 have hji6_:(if (t410.length:Int)<a2 then (t410.length:Int) else a2)=ji6:=hji6
 by_cases c7:0≤(ji6)
 ·rw [if_pos c7] at H
  have c7b0:=eq_true c7
  have c7b1:decide (0≤(ji6))=true:=decide_eq_true c7
  clear c7
  by_cases c8:(ji6)≤(t410.length:Int)
  ·rw [if_pos c8] at H
   have c8b0:=eq_true c8
   have c8b1:decide ((ji6)≤(t410.length:Int))=true:=decide_eq_true c8
   clear c8
   obtain ⟨y413,hy413⟩:∃ y_:List Int,y_=(t410.take ((ji6):Int).toNat):=⟨_,rfl⟩
   replace H:(if 0≤(y413.length:Int) then (if (y413.length:Int)≤(t410.length:Int) then ((slices_Clone_int64_int64.f (t410.drop ((y413.length:Int):Int).toNat)).bind fun t421=>((slices_DeleteFunc_int64_int64_impl_places_1.f k t421 l3).bind fun t424=>(impl_places.l0 k t424 ([]:List (S56)) y413 (y413.length:Int) 0 l3))) else (none)) else (none))=some r:=by first | (rw [hy413];with_reducible exact H) | (have H2_:=(Option.bind_some _ _).symm.trans H;rw [hy413];with_reducible exact H2_) | (have H2_:=(Option.bind_some _ _).symm.trans H;with_reducible exact H2_) | with_reducible exact H | (rw [hy413];exact H) | exact H
   have Ny413:=Aside0.mk hy413
   clear hy413
   by_cases c9:0≤(y413.length:Int)
   ·rw [if_pos c9] at H
    have c9b0:=eq_true c9
    have c9b1:decide (0≤(y413.length:Int))=true:=decide_eq_true c9
    clear c9
    by_cases c10:(y413.length:Int)≤(t410.length:Int)
    ·rw [if_pos c10] at H
     have c10b0:=eq_true c10
     have c10b1:decide ((y413.length:Int)≤(t410.length:Int))=true:=decide_eq_true c10
     clear c10
     obtain ⟨y417,hy417⟩:∃ y_:List Int,y_=(t410.drop ((y413.length:Int):Int).toNat):=⟨_,rfl⟩
     replace H:((slices_Clone_int64_int64.f y417).bind fun t421=>((slices_DeleteFunc_int64_int64_impl_places_1.f k t421 l3).bind fun t424=>(impl_places.l0 k t424 ([]:List (S56)) y413 (y413.length:Int) 0 l3)))=some r:=by first | (rw [hy417];with_reducible exact H) | (have H2_:=(Option.bind_some _ _).symm.trans H;rw [hy417];with_reducible exact H2_) | (have H2_:=(Option.bind_some _ _).symm.trans H;with_reducible exact H2_) | with_reducible exact H | (rw [hy417];exact H) | exact H
     have Ny417:=Aside0.mk hy417
     clear hy417
     replace H:=Option.bind_eq_some_iff.mp H
     obtain ⟨t421,A110,H⟩:=H
     replace H:((slices_DeleteFunc_int64_int64_impl_places_1.f k t421 l3).bind fun t424=>(impl_places.l0 k t424 ([]:List (S56)) y413 (y413.length:Int) 0 l3))=some r:=H
     have A11:=Aside0.mk A110
     clear A110
     replace H:=Option.bind_eq_some_iff.mp H
     obtain ⟨t424,A120,H⟩:=H
     replace H:(impl_places.l0 k t424 ([]:List (S56)) y413 (y413.length:Int) 0 l3)=some r:=H
     have A12:=Aside0.mk A120
     clear A120
     have H':=Aside0.mk H
     clear H
     go_enter Tryd.func34,Tryd.ntmps34
     go_wp2_with (first | ((with_reducible refine gd_ 4 ?_);refine be_ 4 #[.int .i64 a0_0,.slice A0_1 l0_1.length c0_1] 30 ?_;intro gb408 hg w13 hbox hb;refine as4_ (below_step (z6_ HB.out) hb) (hbox) ((z8_ HB.out:w.heap.size≤gb408)) ((z8_ HB.out:w.heap.size≤gb408)) ?_;clear HB;intro HB BK408 GW408 GE408;clear hb hbox hg) | ((with_reducible refine gd_ 7 ?_);refine be_ 7 #[.slice A3 l3.length c3] 26 ?_;intro gb409 hg w14 hbox hb;refine as7_ (blkB_ BK408.out hb) (below_step (z4_ HB.out GE408.out) hb) (hbox) ((z12_ HB.out GE408.out:w.heap.size≤gb409)) ((z12_ HB.out GE408.out:w.heap.size≤gb409)) (neL_ BK408.out hg) (neG_ BK408.out hg) ?_;clear BK408 HB;intro BK408 HB BK409 GW409 GE409 NB408_409 NB409_408;clear hb hbox hg;have hnb15:=NB408_409.out;have hnc15:=NB409_408.out;have ⟨hcz16_0,hcz16_1,hfz16_0,hfz16_1⟩:=cz2_ BK408.out) | ((with_reducible refine gc_ 51 ?_);refine gl_ (some 17) Tryd.func51 #[.agg #[.int .i64 a0_0,.slice A0_1 l0_1.length c0_1],.string a1] ?_;(with_reducible refine (impl_order.calls k a0_0 _ _ l0_1 a1 t410 _ ?s1 ?s2 A5.out).mono ?_);(case s1=>repeat (first | exact (Kd.C_below HR0_1.out HB.out) | (with_reducible refine Kd.C_alloc ?_ _) | (with_reducible refine Kd.C_drewN ?_ _) | (with_reducible refine Kd.C_drew ?_)));(case s2=>exact HC0_1.out);rintro e w17 ⟨v411,rfl,ho0,hb⟩;refine ⟨_,rfl,?_⟩;refine as4_ (Kd.R_lower ho0 (below_size (z7_ HB.out GE408.out GE409.out))) (blkB_ BK408.out hb) (blkB_ BK409.out hb) (below_step (z7_ HB.out GE408.out GE409.out) hb) ?_;clear BK408 BK409 HB;intro HO412 BK408 BK409 HB;(try clear hb);(try clear ho0);obtain ⟨Ao18,co18,eo18⟩:=Kd.R_slice HO412.out;subst eo18;have q19:((ji6):Int)≤((t410.length:Int):Int):=of_decide_eq_true (z0_);obtain ⟨i019,hi019,_,hsz19,_⟩:=info_parts info2;have hroom19:t410.length≤co18:=(Kd.R_reads' HO412.out).2.1;have hC19:Kd.C (Kd.int .i64) _ Ao18 t410.length t410:=(Kd.R_reads' HO412.out).2.2;have hcut19:=cut_to (P:=Tryd.prog) 26 2 .i64 Tryd.underlying26 hi019 Ao18 t410.length co18 (ji6) (of_decide_eq_true (z0_)) q19 hroom19;have hr19:=Kd.C_take (m:=((ji6):Int).toNat) hC19 (by omega);have hy19:y413.length=((ji6):Int).toNat:=(by rw [Ny413.out,List.length_take];omega);rw [← Ny413.out] at hr19;rw [← hy19] at hcut19;have HR416:=Aside0.mk hr19;have HC416:=Aside0.mk (show y413.length≤co18 from by omega);clear hr19 hC19 hroom19 hi019 hsz19;have KY19:=Aside0.mk hy19;clear hy19;have KL19:=Aside0.mk (show ((ji6):Int).toNat≤t410.length from by omega);replace q19:=eq_true q19;have q20:((y413.length:Int):Int)≤((t410.length:Int):Int):=of_decide_eq_true (z0_);obtain ⟨i020,hi020,_,hsz20,_⟩:=info_parts info2;have hroom20:t410.length≤co18:=(Kd.R_reads' HO412.out).2.1;have hC20:Kd.C (Kd.int .i64) _ Ao18 t410.length t410:=(Kd.R_reads' HO412.out).2.2;have q020:(0:Int)≤((y413.length:Int):Int):=of_decide_eq_true (z0_);have hcut20:=cut_from (P:=Tryd.prog) 26 2 .i64 Tryd.underlying26 hi020 1 hsz20 Ao18 t410.length co18 (y413.length:Int) q020 q20;have hr20:=Kd.C_drop (m:=((y413.length:Int):Int).toNat) (c:=co18) hC20 (by omega) hroom20;obtain ⟨A20,hA20⟩:∃ A1,A1=(if co18=((y413.length:Int):Int).toNat then Ao18 else (Ao18:Option Addr).map (·.add (((y413.length:Int):Int).toNat*1))):=⟨_,rfl⟩;obtain ⟨c20,hc20⟩:∃ c1,c1=co18-((y413.length:Int):Int).toNat:=⟨_,rfl⟩;have hy20:y417.length=t410.length-((y413.length:Int):Int).toNat:=(by rw [Ny417.out,List.length_drop] <;> omega);rw [show (t410).drop ((y413.length:Int):Int).toNat=y417 from Ny417.out.symm] at hr20;replace hr20:Kd.C (Kd.int .i64) _ A20 y417.length y417:=(by rw [hA20];exact hr20);rw [← hy20,← hA20,← hc20] at hcut20;have HR420:=Aside0.mk hr20;have HC420:=Aside0.mk (show y417.length≤c20 from by rw [hy20,hc20];exact Nat.sub_le_sub_right hroom20 _);clear hr20 hC20 hroom20 hi020 hsz20 hc20;have KY20:=Aside0.mk hy20;have KA20:=Aside0.mk hA20;clear hy20 hA20;have KL20:=Aside0.mk (show ((y413.length:Int):Int).toNat≤t410.length from by omega);replace q20:=eq_true q20) | ((with_reducible refine gc_ 47 ?_);refine gl_ (some 28) Tryd.func47 #[.slice A20 y417.length c20] ?_;(with_reducible refine (slices_Clone_int64_int64.calls _ _ y417 t421 _ ?s1 ?s2 A11.out).mono ?_);(case s1=>repeat (first | exact (z21_ HR420.out) | (with_reducible refine Kd.C_alloc ?_ _) | (with_reducible refine Kd.C_drewN ?_ _) | (with_reducible refine Kd.C_drew ?_)));(case s2=>exact HC420.out);rintro e w21 ⟨v422,rfl,ho0,hb⟩;refine ⟨_,rfl,?_⟩;refine as7_ (Kd.R_elder' (z2_ HO412.out) (Kd.R_base ho0) hb) (Kd.R_lower (Kd.R_new' ho0 (Kd.R_lt (z2_ HO412.out))) (below_size (z7_ HB.out GE408.out GE409.out))) (blkB_ BK408.out hb) (blkB_ BK409.out hb) (Kd.C_below (z21_ HR416.out) hb) (Kd.C_below (z21_ HR420.out) hb) (below_step (z7_ HB.out GE408.out GE409.out) hb) ?_;clear HO412 BK408 BK409 HR416 HR420 HB;intro HO412 HO423 BK408 BK409 HR416 HR420 HB;(try clear hb);(try clear ho0);obtain ⟨Ao22,co22,eo22⟩:=Kd.R_slice HO423.out;subst eo22) | ((with_reducible refine gc_ 46 ?_);refine gl_ (some 30) Tryd.func46 #[.slice Ao22 t421.length co22,.func (.func 52) #[] #[.pointer (some ⟨gb409,0,none⟩)]] ?_;(with_reducible refine (slices_DeleteFunc_int64_int64_impl_places_1.calls k (fun k_=>some k_=(.slice Ao22 t421.length co22:Value).ownBlock) (.slice Ao22 t421.length co22) t421 gb409 A3 c3 l3 t424 w _ ?s1 ?s2 ?s3 ?s4 ?s5 A12.out).mono ?_);(case s1=>repeat (first | (with_reducible first | exact HB.out | apply below_alloc | apply pw_below_drewN | apply below_drew1 | refine below_set ?_ GE408.out | refine below_set ?_ GE409.out) | exact HB.out));(case s2=>exact Kd.R_tight rfl HO423.out);(case s3=>exact Kd.C_kept_came (Kd.heap_int .i64) HR3.out (z7_ HB.out GE408.out GE409.out) (fun k_ hs_=>(fun e_=>Kd.R_base HO423.out k_ e_.symm) hs_));(case s4=>exact HC3.out);(case s5=>(with_reducible repeat (first | refine blk_drewN ?_ _ | refine blk_drew ?_ | refine blk_alloc ?_ _));exact BK409.out);rintro e w23 ⟨v425,rfl,ho0,hb,hkp⟩;refine ⟨_,rfl,?_⟩;have HZ0_:=Aside0.mk (Kd.R_keptB HO412.out hkp (fun k_ hk_ hs_=>hk_.2 hs_));have HZ:=Aside0.mk (Kd.Q_of_R (Kd.R_mono (show Kd.R (Kd.int .i64) 2 _ w.heap.size _ (.slice Ao18 y413.length co18) y413 from by have h_:=Kd.R_take (m:=((ji6):Int).toNat) HZ0_.out (by omega);rw [← Ny413.out,← KY19.out] at h_;exact h_) (fun _ _=>trivial)));clear HZ0_;refine as5_ (blk_kept (z3_ BK408.out) hkp (fun hs_=>(fun e_=>(Kd.R_ne HO423.out BK408.out (by decide)) e_) hs_)) (blk_kept (z3_ BK409.out) hkp (fun hs_=>(fun e_=>(Kd.R_ne HO423.out BK409.out (by decide)) e_) hs_)) (Kd.R_mono (ok':=fun k_=>some k_≠(v425:Value).ownBlock) (Kd.R_keptB (HO412.out) hkp (fun k_ hk_ hs_=>(hk_.2) hs_)) (fun k_ hk_=>fun e_=>Or.elim (ho0.1 k_ e_.symm) (fun hs_=>hk_.2.1 hs_) (fun hn_=>Nat.not_le.2 hk_.2.2 hn_))) (Kd.R_mono (ok':=fun k_=>some k_≠(.slice Ao18 t410.length co18:Value).ownBlock) ho0 (fun k_ hk_=>Or.elim hk_ (fun hs_=>fun e_=>(((HO412.out).1 k_ e_.symm).2) hs_) (fun hn_=>(Kd.fresh' (Kd.R_lt (z2_ HO412.out)) k_ hn_)))) (hb) ?_;clear BK408 BK409 HO412 HB HO423;intro BK408 BK409 HO412 HO426 HB;(try clear hb);(try clear hkp);(try clear ho0)))
     go_loopg [11,12,33] k (fun kq v11 v12 v33 w'=>∃ (x11_1:List Int) (x12_1:List (S56)) (x33_1:Int),v33 = .int .i64 x33_1∧Aside0 (impl_places.l0 kq x11_1 x12_1 y413 (y413.length:Int) x33_1 l3=some r)∧Aside0 (kq≤k)∧Aside0 (Kd.Q (Kd.int .i64) 2 w' w.heap.size (fun _=>True) v11 x11_1)∧Aside0 (Kd.R k56 56 w' w.heap.size (fun _=>True) v12 x12_1)∧Aside0 (w'.heap[gb408]? = some (.cells #[.int .i64 a0_0,(.slice A0_1 l0_1.length c0_1)] 30 (0,0)))∧Aside0 (w'.heap[gb409]? = some (.cells #[(.slice A3 l3.length c3)] 26 (0,0)))∧Aside0 (Kd.Q (Kd.int .i64) 2 w' w.heap.size (fun _=>True) (.slice Ao18 y413.length co18) y413)∧Aside0 (Below w.heap.size w w'))
     case atStart=>exact ⟨(t424),(([]:List (S56))),(0),(z1_),H',⟨Nat.le_refl _⟩,⟨Kd.Q_of_R (z34_ HO426.out)⟩,⟨z28_⟩,⟨z3_ BK408.out⟩,⟨z3_ BK409.out⟩,⟨z17_ HZ.out⟩,⟨z7_ HB.out GE408.out GE409.out⟩⟩
     case round =>
      clear H'
      try clear c1
      try clear q1
      try clear c2
      try clear p2
      try clear q2
      try clear c3
      try clear c4
      try clear c5
      try clear c7
      try clear c7b0
      try clear c7b1
      try clear c8
      try clear c8b0
      try clear c8b1
      try clear c9
      try clear c9b0
      try clear c9b1
      try clear c10
      try clear c10b0
      try clear c10b1
      try clear c15
      try clear q19
      try clear c20
      try clear q20
      try clear hcz16_0
      try clear hcz16_1
      try clear hfz16_0
      try clear hfz16_1
      try clear q020
      try clear q19
      try clear q20
      obtain ⟨x11_1,x12_1,x33_1,rfl,HA,HK1,HO_11,HO_12,BK408,BK409,HZ,HB⟩:=hrel
      cases gk with
      | zero=>exact absurd HA.out (by simp [impl_places.l0])
      | succ k1 =>
       have H:=HA.out
       clear HA
       simp only [impl_places.l0] at H
       by_cases c24:x33_1<(y413.length:Int)
       ·rw [if_pos c24] at H
        have c24b0:decide (x33_1<(y413.length:Int))=true:=decide_eq_true c24
        clear c24
        by_cases c25:0≤x33_1
        ·rw [if_pos c25] at H
         have c25b0:decide (0≤x33_1)=true:=decide_eq_true c25
         clear c25
         by_cases c26:x33_1<(y413.length:Int)
         ·rw [if_pos c26] at H
          have c26b0:decide (x33_1<(y413.length:Int))=true:=decide_eq_true c26
          clear c26
          replace H:=Option.bind_eq_some_iff.mp H
          obtain ⟨t428,A270,H⟩:=H
          replace H:(if t428=true then (if (x11_1.length:Int)>0 then (if 0<(x11_1.length:Int) then (if x12_1.length<8796093022208 then (if 1≤(x11_1.length:Int) then (impl_places.l0 k1 (x11_1.drop (1:Int).toNat) (x12_1 ++ [(⟨rd x11_1 0,rd y413 x33_1⟩:S56)]) y413 (y413.length:Int) (wrap64 (x33_1+1)) l3) else (none)) else (none)) else (none)) else (impl_places.l0 k1 x11_1 x12_1 y413 (y413.length:Int) (wrap64 (x33_1+1)) l3)) else (if x12_1.length<8796093022208 then (impl_places.l0 k1 x11_1 (x12_1 ++ [(⟨rd y413 x33_1,rd y413 x33_1⟩:S56)]) y413 (y413.length:Int) (wrap64 (x33_1+1)) l3) else (none)))=some r:=H
          have A27:=Aside0.mk A270
          clear A270
          by_cases c28:t428=true
          ·subst c28
           have H1:(if (x11_1.length:Int)>0 then (if 0<(x11_1.length:Int) then (if x12_1.length<8796093022208 then (if 1≤(x11_1.length:Int) then (impl_places.l0 k1 (x11_1.drop (1:Int).toNat) (x12_1 ++ [(⟨rd x11_1 0,rd y413 x33_1⟩:S56)]) y413 (y413.length:Int) (wrap64 (x33_1+1)) l3) else (none)) else (none)) else (none)) else (impl_places.l0 k1 x11_1 x12_1 y413 (y413.length:Int) (wrap64 (x33_1+1)) l3))=some r:=by rw [if_pos rfl] at H;exact H
           clear H
           have H:=H1
           clear H1
           by_cases c29:(x11_1.length:Int)>0
           ·rw [if_pos c29] at H
            have c29b0:decide (0<(x11_1.length:Int))=true:=decide_eq_true c29
            have c29b1:decide (0<x11_1.length)=true:=decide_eq_true (by omega)
            clear c29
            by_cases c30:0<(x11_1.length:Int)
            ·rw [if_pos c30] at H
             have c30b0:decide (0<(x11_1.length:Int))=true:=decide_eq_true c30
             have c30b1:decide (0<x11_1.length)=true:=decide_eq_true (by omega)
             clear c30
             by_cases c31:x12_1.length<8796093022208
             ·rw [if_pos c31] at H
              have LMc31:=Aside0.mk c31
              clear c31
              obtain ⟨y430,hy430⟩:∃ y_:List (S56),y_=(x12_1 ++ [(⟨rd x11_1 0,rd y413 x33_1⟩:S56)]):=⟨_,rfl⟩
              replace H:(if 1≤(x11_1.length:Int) then (impl_places.l0 k1 (x11_1.drop (1:Int).toNat) y430 y413 (y413.length:Int) (wrap64 (x33_1+1)) l3) else (none))=some r:=by first | (rw [hy430];with_reducible exact H) | (have H2_:=(Option.bind_some _ _).symm.trans H;rw [hy430];with_reducible exact H2_) | (have H2_:=(Option.bind_some _ _).symm.trans H;with_reducible exact H2_) | with_reducible exact H | (rw [hy430];exact H) | exact H
              have Ny430:=Aside0.mk hy430
              clear hy430
              by_cases c32:1≤(x11_1.length:Int)
              ·rw [if_pos c32] at H
               have c32b0:=eq_true c32
               have c32b1:decide (1≤(x11_1.length:Int))=true:=decide_eq_true c32
               clear c32
               obtain ⟨y433,hy433⟩:∃ y_:List Int,y_=(x11_1.drop (1:Int).toNat):=⟨_,rfl⟩
               replace H:(impl_places.l0 k1 y433 y430 y413 (y413.length:Int) (wrap64 (x33_1+1)) l3)=some r:=by first | (rw [hy433];with_reducible exact H) | (have H2_:=(Option.bind_some _ _).symm.trans H;rw [hy433];with_reducible exact H2_) | (have H2_:=(Option.bind_some _ _).symm.trans H;with_reducible exact H2_) | with_reducible exact H | (rw [hy433];exact H) | exact H
               have Ny433:=Aside0.mk hy433
               clear hy433
               have H':=Aside0.mk H
               clear H
               have p427:0≤(x33_1:Int):=of_decide_eq_true (z0_)
               have q427:x33_1<(y413.length:Int):=of_decide_eq_true (z0_)
               obtain ⟨ad427,e427,hx427_0⟩:=Kd.at_int (Kd.Q_reads' HZ.out).2.2 x33_1 p427 q427
               cases e427
               replace p427:=eq_true p427
               replace q427:=eq_true q427
               have hnb33:=NB409_408.out
               have hnc33:=NB408_409.out
               have ⟨hcz34_0,hfz34_0⟩:=cz1_ BK409.out
               go_wp2_with (first | ((with_reducible refine gc_ 49 ?_);refine gl_ (some 40) Tryd.func49 #[.slice A3 l3.length c3,.int .i64 (rd y413 x33_1)] ?_;(with_reducible refine (slices_Contains_int64_int64.calls k1 _ _ l3 (rd y413 x33_1) true _ ?s1 ?s2 A27.out).mono ?_);(case s1=>repeat (first | exact (Kd.C_below HR3.out HB.out) | (with_reducible refine Kd.C_alloc ?_ _) | (with_reducible refine Kd.C_drewN ?_ _) | (with_reducible refine Kd.C_drew ?_)));(case s2=>exact HC3.out);rintro e w' ⟨rfl,⟨nd,rfl⟩⟩;refine ⟨_,rfl,?_⟩;obtain ⟨Ao35,co35,eo35,_⟩:=Kd.Q_slice HO_11.out;subst eo35;have p429:0≤(0:Int):=(by omega);have q429:0<(x11_1.length:Int):=of_decide_eq_true (z0_);obtain ⟨ad429,e429,hx429_0⟩:=Kd.at_int (Kd.Q_reads' HO_11.out).2.2 0 p429 q429;cases e429;have qi429:(0<x11_1.length)=True:=eq_true (by omega);(try rw [show ((0:Int)).toNat=0 from rfl] at hx429_0);(try rw [Addr.add_zero'] at hx429_0);replace p429:=eq_true p429;replace q429:=eq_true q429) | ((with_reducible refine gate_builtin (b:=.append) (xs:=#[.tmp 52,.tmp 58]) rfl ?_);at_builtin;refine Kd.R_append k56 (w0:=w) w.heap.size rfl (.tmp 52) (.tmp 58) 53 56 (.agg #[(.int .i64 0),(.int .i64 0)]) 16 rfl Tryd.underlying53 info56 rfl (by decide) (by omega) u12 x12_1 (⟨rd x11_1 0,rd y413 x33_1⟩:S56) [.int .i64 (rd x11_1 0),.int .i64 (rd y413 x33_1)] (fun _=>True) (fun _=>False) rfl rfl ?aP (fun _ hk=>hk.elim) ?aF ?aO ?aB ?aS ?aL ?_;(case aP=>exact k56_mkM _ _ _ (⟨rd x11_1 0,rd y413 x33_1⟩:S56));(case aB=>exact (z7_ HB.out GE408.out GE409.out));(case aF=>exact (fun _ _=>trivial));(case aO=>exact (z2_ HO_12.out));(case aS=>exact (below_size (z7_ HB.out GE408.out GE409.out)));(case aL=>have:=LMc31.out;omega);intro v431 w36 ho hb hg hat;rw [← Ny430.out] at ho;have HZ:=Aside0.mk (Kd.Q_over' (z17_ HZ.out) (Kd.R_typed (z2_ HO_12.out)) (by decide) hg);refine as5_ (Kd.Q_over' (z17_ HO_11.out) (Kd.R_typed (z2_ HO_12.out)) (by decide) hg) (blk_grown (g:=gb408) (o:=.cells #[.int .i64 a0_0,.slice A0_1 l0_1.length c0_1] 30 (0,0)) (z3_ BK408.out) hg (Kd.R_ne HO_12.out BK408.out (by decide))) (blk_grown (g:=gb409) (o:=.cells #[.slice A3 l3.length c3] 26 (0,0)) (z3_ BK409.out) hg (Kd.R_ne HO_12.out BK409.out (by decide))) (hb) (ho) ?_;clear HO_11 BK408 BK409 HB HO_12;intro HO_11 BK408 BK409 HB HO432;clear ho hb hg hat;have q37:(1:Int)≤((x11_1.length:Int):Int):=of_decide_eq_true (z0_);obtain ⟨i037,hi037,_,hsz37,_⟩:=info_parts info2;have hcut37:=cut_from (P:=Tryd.prog) 26 2 .i64 Tryd.underlying26 hi037 1 hsz37 (some ad429) x11_1.length co35 1 (by omega) q37;have hr37:=Kd.Q_drop (k:=(1:Int).toNat) HO_11.out (by omega);obtain ⟨A37,hA37⟩:∃ A1,A1=(if co35=(1:Int).toNat then (some ad429) else ((some ad429):Option Addr).map (·.add ((1:Int).toNat*1))):=⟨_,rfl⟩;obtain ⟨c37,hc37⟩:∃ c1,c1=co35-(1:Int).toNat:=⟨_,rfl⟩;have hy37:y433.length=x11_1.length-(1:Int).toNat:=(by rw [Ny433.out,List.length_drop]);rw [← Ny433.out] at hr37;rw [← hy37,← hA37,← hc37] at hcut37;replace hr37:Kd.Q (Kd.int .i64) 2 w36 w.heap.size (fun _=>True) (.slice A37 y433.length c37) y433:=(by rw [hA37,hc37,hy37];exact hr37);have HE37:Aside0 ((Value.slice A37 y433.length c37).ownBlock=(.slice (some ad429) x11_1.length co35:Value).ownBlock):=⟨by rw [hA37];split <;> (cases ((some ad429):Option Addr) <;> rfl)⟩;clear hy37 hi037 hsz37 HO_11 hA37 hc37;have HO435:=Aside0.mk hr37;clear hr37;replace q37:=eq_true q37))
               go_roundg k1
               case measure=>have:=HK1.out;omega
               case rel=>exact ⟨(y433),(y430),(wrap64 (x33_1+1)),(z1_),H',⟨by have:=HK1.out;omega⟩,⟨z17_ HO435.out⟩,⟨z2_ HO432.out⟩,⟨z3_ BK408.out⟩,⟨z3_ BK409.out⟩,⟨z17_ HZ.out⟩,⟨z7_ HB.out GE408.out GE409.out⟩⟩
              ·rw [if_neg c32] at H
               exact absurd H (by simp)
             ·rw [if_neg c31] at H
              exact absurd H (by simp)
            ·rw [if_neg c30] at H
             exact absurd H (by simp)
           ·rw [if_neg c29] at H
            have c29b0:decide (0<(x11_1.length:Int))=false:=decide_eq_false c29
            have c29b1:decide (0<x11_1.length)=false:=decide_eq_false (by omega)
            clear c29
            have H':=Aside0.mk H
            clear H
            have p427:0≤(x33_1:Int):=of_decide_eq_true (z0_)
            have q427:x33_1<(y413.length:Int):=of_decide_eq_true (z0_)
            obtain ⟨ad427,e427,hx427_0⟩:=Kd.at_int (Kd.Q_reads' HZ.out).2.2 x33_1 p427 q427
            cases e427
            replace p427:=eq_true p427
            replace q427:=eq_true q427
            have hnb38:=NB409_408.out
            have hnc38:=NB408_409.out
            have ⟨hcz39_0,hfz39_0⟩:=cz1_ BK409.out
            go_wp2_with (first | ((with_reducible refine gc_ 49 ?_);refine gl_ (some 40) Tryd.func49 #[.slice A3 l3.length c3,.int .i64 (rd y413 x33_1)] ?_;(with_reducible refine (slices_Contains_int64_int64.calls k1 _ _ l3 (rd y413 x33_1) true _ ?s1 ?s2 A27.out).mono ?_);(case s1=>repeat (first | exact (Kd.C_below HR3.out HB.out) | (with_reducible refine Kd.C_alloc ?_ _) | (with_reducible refine Kd.C_drewN ?_ _) | (with_reducible refine Kd.C_drew ?_)));(case s2=>exact HC3.out);rintro e w' ⟨rfl,⟨nd,rfl⟩⟩;refine ⟨_,rfl,?_⟩;obtain ⟨Ao40,co40,eo40,_⟩:=Kd.Q_slice HO_11.out;subst eo40))
            go_roundg k1
            case measure=>have:=HK1.out;omega
            case rel=>exact ⟨(x11_1),(x12_1),(wrap64 (x33_1+1)),(z1_),H',⟨by have:=HK1.out;omega⟩,⟨z17_ HO_11.out⟩,⟨z2_ HO_12.out⟩,⟨z3_ BK408.out⟩,⟨z3_ BK409.out⟩,⟨z17_ HZ.out⟩,⟨z7_ HB.out GE408.out GE409.out⟩⟩
          ·replace c28:=Bool.eq_false_iff.mpr c28
           subst c28
           have H1:(if x12_1.length<8796093022208 then (impl_places.l0 k1 x11_1 (x12_1 ++ [(⟨rd y413 x33_1,rd y413 x33_1⟩:S56)]) y413 (y413.length:Int) (wrap64 (x33_1+1)) l3) else (none))=some r:=by rw [if_neg (show ¬ (false=true) by decide)] at H;exact H
           clear H
           have H:=H1
           clear H1
           by_cases c41:x12_1.length<8796093022208
           ·rw [if_pos c41] at H
            have LMc41:=Aside0.mk c41
            clear c41
            obtain ⟨y436,hy436⟩:∃ y_:List (S56),y_=(x12_1 ++ [(⟨rd y413 x33_1,rd y413 x33_1⟩:S56)]):=⟨_,rfl⟩
            replace H:(impl_places.l0 k1 x11_1 y436 y413 (y413.length:Int) (wrap64 (x33_1+1)) l3)=some r:=by first | (rw [hy436];with_reducible exact H) | (have H2_:=(Option.bind_some _ _).symm.trans H;rw [hy436];with_reducible exact H2_) | (have H2_:=(Option.bind_some _ _).symm.trans H;with_reducible exact H2_) | with_reducible exact H | (rw [hy436];exact H) | exact H
            have Ny436:=Aside0.mk hy436
            clear hy436
            have H':=Aside0.mk H
            clear H
            have p427:0≤(x33_1:Int):=of_decide_eq_true (z0_)
            have q427:x33_1<(y413.length:Int):=of_decide_eq_true (z0_)
            obtain ⟨ad427,e427,hx427_0⟩:=Kd.at_int (Kd.Q_reads' HZ.out).2.2 x33_1 p427 q427
            cases e427
            replace p427:=eq_true p427
            replace q427:=eq_true q427
            have hnb42:=NB409_408.out
            have hnc42:=NB408_409.out
            have ⟨hcz43_0,hfz43_0⟩:=cz1_ BK409.out
            go_wp2_with (first | ((with_reducible refine gc_ 49 ?_);refine gl_ (some 40) Tryd.func49 #[.slice A3 l3.length c3,.int .i64 (rd y413 x33_1)] ?_;(with_reducible refine (slices_Contains_int64_int64.calls k1 _ _ l3 (rd y413 x33_1) false _ ?s1 ?s2 A27.out).mono ?_);(case s1=>repeat (first | exact (Kd.C_below HR3.out HB.out) | (with_reducible refine Kd.C_alloc ?_ _) | (with_reducible refine Kd.C_drewN ?_ _) | (with_reducible refine Kd.C_drew ?_)));(case s2=>exact HC3.out);rintro e w' ⟨rfl,⟨nd,rfl⟩⟩;refine ⟨_,rfl,?_⟩) | ((with_reducible refine gate_builtin (b:=.append) (xs:=#[.tmp 42,.tmp 46]) rfl ?_);at_builtin;refine Kd.R_append k56 (w0:=w) w.heap.size rfl (.tmp 42) (.tmp 46) 53 56 (.agg #[(.int .i64 0),(.int .i64 0)]) 16 rfl Tryd.underlying53 info56 rfl (by decide) (by omega) u12 x12_1 (⟨rd y413 x33_1,rd y413 x33_1⟩:S56) [.int .i64 (rd y413 x33_1),.int .i64 (rd y413 x33_1)] (fun _=>True) (fun _=>False) rfl rfl ?aP (fun _ hk=>hk.elim) ?aF ?aO ?aB ?aS ?aL ?_;(case aP=>exact k56_mkM _ _ _ (⟨rd y413 x33_1,rd y413 x33_1⟩:S56));(case aB=>exact (z7_ HB.out GE408.out GE409.out));(case aF=>exact (fun _ _=>trivial));(case aO=>exact (z2_ HO_12.out));(case aS=>exact (below_size (z7_ HB.out GE408.out GE409.out)));(case aL=>have:=LMc41.out;omega);intro v437 w44 ho hb hg hat;rw [← Ny436.out] at ho;have HZ:=Aside0.mk (Kd.Q_over' (z17_ HZ.out) (Kd.R_typed (z2_ HO_12.out)) (by decide) hg);refine as5_ (Kd.Q_over' (z17_ HO_11.out) (Kd.R_typed (z2_ HO_12.out)) (by decide) hg) (blk_grown (g:=gb408) (o:=.cells #[.int .i64 a0_0,.slice A0_1 l0_1.length c0_1] 30 (0,0)) (z3_ BK408.out) hg (Kd.R_ne HO_12.out BK408.out (by decide))) (blk_grown (g:=gb409) (o:=.cells #[.slice A3 l3.length c3] 26 (0,0)) (z3_ BK409.out) hg (Kd.R_ne HO_12.out BK409.out (by decide))) (hb) (ho) ?_;clear HO_11 BK408 BK409 HB HO_12;intro HO_11 BK408 BK409 HB HO438;clear ho hb hg hat))
            go_roundg k1
            case measure=>have:=HK1.out;omega
            case rel=>exact ⟨(x11_1),(y436),(wrap64 (x33_1+1)),(z1_),H',⟨by have:=HK1.out;omega⟩,⟨z17_ HO_11.out⟩,⟨z2_ HO438.out⟩,⟨z3_ BK408.out⟩,⟨z3_ BK409.out⟩,⟨z17_ HZ.out⟩,⟨z7_ HB.out GE408.out GE409.out⟩⟩
           ·rw [if_neg c41] at H
            exact absurd H (by simp)
         ·rw [if_neg c26] at H
          exact absurd H (by simp)
        ·rw [if_neg c25] at H
         exact absurd H (by simp)
       ·rw [if_neg c24] at H
        have c24b0:decide (x33_1<(y413.length:Int))=false:=decide_eq_false c24
        clear c24
        obtain rfl:=Option.some.inj H
        go_wp2
        go_ret
        exact ⟨_,by first | rfl | (simp [errW_none,errW_some] <;> rfl) | (simp only [← hji6];first | rfl | (simp [errW_none,errW_some] <;> rfl)) | (simp [*,errW_none,errW_some] <;> rfl),z2_ HO_12.out,z7_ HB.out GE408.out GE409.out⟩
    ·rw [if_neg c10] at H
     exact absurd H (by simp)
   ·rw [if_neg c9] at H
    exact absurd H (by simp)
  ·rw [if_neg c8] at H
   exact absurd H (by simp)
 ·rw [if_neg c7] at H
  exact absurd H (by simp)


/-! ### impl_StandIns: function 16 -/
mutual
def impl_StandIns.j0:Nat→ByteArray→Int→List Int→Bool→Int→List (S59)→Option (List Int)
 | 0,_,_,_,_,_,_=>none
 | k+1,x1,x2,x3,x29,x440000,x440001=>if x29=true then (some ([]:List Int)) else ((impl_places.f k x440000 x440001 x1 x2 x3).bind fun t444=>(impl_StandIns.l0 k ([]:List Int) t444 (t444.length:Int) 0))
def impl_StandIns.l0:Nat→List Int→List (S56)→Int→Int→Option (List Int)
 | 0,_,_,_,_=>none
 | k+1,x9,x34,x35,x36=>if x36<x35 then (if 0≤x36 then (if x36<(x34.length:Int) then (if x9.length<17592186044416 then (impl_StandIns.l0 k (x9 ++ [(rd_T56 x34 x36).f0]) x34 x35 (wrap64 (x36+1))) else (none)) else (none)) else (none)) else (some x9)
end
def impl_StandIns.f (k:Nat) (a0_0:Int) (l0_1:List (S59)) (a1:ByteArray) (a2:Int) (l3:List Int):Option (List Int):=(impl_isMany_int64.f l3).bind fun t440=>(if t440=true then (impl_StandIns.j0 k a1 a2 l3 true a0_0 l0_1) else ((impl_isKeyed.f k a0_0 l0_1 a1).bind fun t441=>(if t441=true then ((impl_isNode.f a2).bind fun t442=>(if t442=true then ((impl_isRising.f k l3 5).bind fun t443=>(impl_StandIns.j0 k a1 a2 l3 (!t443) a0_0 l0_1)) else (impl_StandIns.j0 k a1 a2 l3 true a0_0 l0_1))) else (impl_StandIns.j0 k a1 a2 l3 true a0_0 l0_1))))
theorem impl_StandIns.mono_l:∀ k,(∀ y0 y1 y2 y3 y4 y5,LeO (impl_StandIns.j0 k y0 y1 y2 y3 y4 y5) (impl_StandIns.j0 (k+1) y0 y1 y2 y3 y4 y5))∧(∀ y0 y1 y2 y3,LeO (impl_StandIns.l0 k y0 y1 y2 y3) (impl_StandIns.l0 (k+1) y0 y1 y2 y3))
 | 0=>⟨fun _ _ _ _ _ _ r h=>by simp [impl_StandIns.j0] at h,fun _ _ _ _ r h=>by simp [impl_StandIns.l0] at h⟩
 | k+1=>by
  obtain ⟨ih0,ih1⟩:=impl_StandIns.mono_l k
  refine ⟨?_,?_⟩
  ·intro y0 y1 y2 y3 y4 y5
   unfold impl_StandIns.j0
   repeat' first
   | (with_reducible exact ih0 _ _ _ _ _ _)
   | (with_reducible exact ih1 _ _ _ _)
   | (with_reducible exact impl_isKeyed.mono _ _ _ _)
   | (with_reducible exact impl_isRising.mono _ _ _)
   | (with_reducible exact impl_places.mono _ _ _ _ _ _)
   | (with_reducible exact LeO.refl _)
   | (with_reducible exact LeO.none _)
   | (with_reducible refine LeO.ite ?_ ?_)
   | (with_reducible refine LeO.bind ?_ (fun _=>?_))
   | exact ih0 _ _ _ _ _ _
   | exact ih1 _ _ _ _
   | exact impl_isKeyed.mono _ _ _ _
   | exact impl_isRising.mono _ _ _
   | exact impl_places.mono _ _ _ _ _ _
   | exact LeO.none _
   | refine LeO.ite ?_ ?_
   | refine LeO.bind ?_ (fun _=>?_)
  ·intro y0 y1 y2 y3
   unfold impl_StandIns.l0
   repeat' first
   | (with_reducible exact ih0 _ _ _ _ _ _)
   | (with_reducible exact ih1 _ _ _ _)
   | (with_reducible exact impl_isKeyed.mono _ _ _ _)
   | (with_reducible exact impl_isRising.mono _ _ _)
   | (with_reducible exact impl_places.mono _ _ _ _ _ _)
   | (with_reducible exact LeO.refl _)
   | (with_reducible exact LeO.none _)
   | (with_reducible refine LeO.ite ?_ ?_)
   | (with_reducible refine LeO.bind ?_ (fun _=>?_))
   | exact ih0 _ _ _ _ _ _
   | exact ih1 _ _ _ _
   | exact impl_isKeyed.mono _ _ _ _
   | exact impl_isRising.mono _ _ _
   | exact impl_places.mono _ _ _ _ _ _
   | exact LeO.none _
   | refine LeO.ite ?_ ?_
   | refine LeO.bind ?_ (fun _=>?_)
theorem impl_StandIns.mono:∀ a0 a1 a2 a3 a4 k,LeO (impl_StandIns.f k a0 a1 a2 a3 a4) (impl_StandIns.f (k+1) a0 a1 a2 a3 a4):=by
 intro a0 a1 a2 a3 a4 k
 obtain ⟨ih0,ih1⟩:=impl_StandIns.mono_l k
 unfold impl_StandIns.f
 repeat' first
   | (with_reducible exact ih0 _ _ _ _ _ _)
   | (with_reducible exact ih1 _ _ _ _)
   | (with_reducible exact impl_isKeyed.mono _ _ _ _)
   | (with_reducible exact impl_isRising.mono _ _ _)
   | (with_reducible exact impl_places.mono _ _ _ _ _ _)
   | (with_reducible exact LeO.refl _)
   | (with_reducible exact LeO.none _)
   | (with_reducible refine LeO.ite ?_ ?_)
   | (with_reducible refine LeO.bind ?_ (fun _=>?_))
   | exact ih0 _ _ _ _ _ _
   | exact ih1 _ _ _ _
   | exact impl_isKeyed.mono _ _ _ _
   | exact impl_isRising.mono _ _ _
   | exact impl_places.mono _ _ _ _ _ _
   | exact LeO.none _
   | refine LeO.ite ?_ ?_
   | refine LeO.bind ?_ (fun _=>?_)
set_option maxHeartbeats 8000000 in
set_option maxRecDepth 100000 in
theorem impl_StandIns.calls (k:Nat) (a0_0:Int) (A0_1:Option Addr) (c0_1:Nat) (l0_1:List (S59)) (a1:ByteArray) (a2:Int) (A3:Option Addr) (c3:Nat) (l3:List Int) (r:List Int) (w:World) (hr0_1:Kd.C k59 w A0_1 l0_1.length l0_1) (hc0_1:l0_1.length≤c0_1) (hr3:Kd.C (Kd.int .i64) w A3 l3.length l3) (hc3:l3.length≤c3) (h:impl_StandIns.f k a0_0 l0_1 a1 a2 l3=some r) :
  Calls Tryd.prog 16 #[.agg #[.int .i64 a0_0,.slice A0_1 l0_1.length c0_1],.string a1,.int .i64 a2,.slice A3 l3.length c3] w fun e w'=>∃ v0_:Value,e = .returned (v0_)∧Kd.R (Kd.int .i64) 2 w' w.heap.size (fun _=>True) v0_ r∧Below w.heap.size w w':=by
 have hu30:=Tryd.underlying30
 have hu56:=Tryd.underlying56
 have HR0_1:=Aside0.mk hr0_1
 have HC0_1:=Aside0.mk hc0_1
 clear hr0_1 hc0_1
 have HR3:=Aside0.mk hr3
 have HC3:=Aside0.mk hc3
 clear hr3 hc3
 have HB:=Aside0.mk (Below.refl w.heap.size w)
 have H:((impl_isMany_int64.f l3).bind fun t440=>(if t440=true then (impl_StandIns.j0 k a1 a2 l3 true a0_0 l0_1) else ((impl_isKeyed.f k a0_0 l0_1 a1).bind fun t441=>(if t441=true then ((impl_isNode.f a2).bind fun t442=>(if t442=true then ((impl_isRising.f k l3 5).bind fun t443=>(impl_StandIns.j0 k a1 a2 l3 (!t443) a0_0 l0_1)) else (impl_StandIns.j0 k a1 a2 l3 true a0_0 l0_1))) else (impl_StandIns.j0 k a1 a2 l3 true a0_0 l0_1)))))=some r:=h
 clear h
 have HC5:=Aside0.mk H
 clear H
 go_enter Tryd.func16,Tryd.ntmps16
 go_upto_region 1 with (first | ((with_reducible refine gd_ 4 ?_);refine be_ 4 #[.int .i64 a0_0,.slice A0_1 l0_1.length c0_1] 30 ?_;intro gb439 hg w6 hbox hb;refine as4_ (below_step (z6_ HB.out) hb) (hbox) ((z8_ HB.out:w.heap.size≤gb439)) ((z8_ HB.out:w.heap.size≤gb439)) ?_;clear HB;intro HB BK439 GW439 GE439;clear hb hbox hg))
 (try simp only [Act.put,sa_,s0_,ss_])
 go_cut [29] (fun v29 wc=>∃ (kq:Nat) (x29_4:Bool),v29 = .bool x29_4∧Aside0 (impl_StandIns.j0 kq a1 a2 l3 x29_4 a0_0 l0_1=some r)∧Aside0 (kq≤k)∧Aside0 (wc.heap[gb439]? = some (.cells #[.int .i64 a0_0,(.slice A0_1 l0_1.length c0_1)] 30 (0,0)))∧Aside0 (Below w.heap.size w wc))
 case first =>
  have H:=HC5.out
  clear HC5
  replace H:=Option.bind_eq_some_iff.mp H
  obtain ⟨t440,A70,H⟩:=H
  replace H:(if t440=true then (impl_StandIns.j0 k a1 a2 l3 true a0_0 l0_1) else ((impl_isKeyed.f k a0_0 l0_1 a1).bind fun t441=>(if t441=true then ((impl_isNode.f a2).bind fun t442=>(if t442=true then ((impl_isRising.f k l3 5).bind fun t443=>(impl_StandIns.j0 k a1 a2 l3 (!t443) a0_0 l0_1)) else (impl_StandIns.j0 k a1 a2 l3 true a0_0 l0_1))) else (impl_StandIns.j0 k a1 a2 l3 true a0_0 l0_1))))=some r:=H
  have A7:=Aside0.mk A70
  clear A70
  by_cases c8:t440=true
  ·subst c8
   have H1:(impl_StandIns.j0 k a1 a2 l3 true a0_0 l0_1)=some r:=by rw [if_pos rfl] at H;exact H
   clear H
   have H:=H1
   clear H1
   have H':=Aside0.mk H
   clear H
   go_wp2_with (first | ((with_reducible refine gc_ 32 ?_);refine gl_ (some 13) Tryd.func32 #[.slice A3 l3.length c3] ?_;(with_reducible refine (impl_isMany_int64.calls _ _ l3 true _ ?s1 ?s2 A7.out).mono ?_);(case s1=>repeat (first | exact (Kd.C_below HR3.out HB.out) | (with_reducible refine Kd.C_alloc ?_ _) | (with_reducible refine Kd.C_drewN ?_ _) | (with_reducible refine Kd.C_drew ?_)));(case s2=>exact HC3.out);rintro e w' ⟨rfl,⟨nd,rfl⟩⟩;refine ⟨_,rfl,?_⟩))
   go_meet
   case rel=>exact ⟨_,(true),(z1_),H',⟨by first | omega | exact Nat.le_refl _⟩,⟨z3_ BK439.out⟩,⟨z4_ HB.out GE439.out⟩⟩
  ·replace c8:=Bool.eq_false_iff.mpr c8
   subst c8
   have H1:((impl_isKeyed.f k a0_0 l0_1 a1).bind fun t441=>(if t441=true then ((impl_isNode.f a2).bind fun t442=>(if t442=true then ((impl_isRising.f k l3 5).bind fun t443=>(impl_StandIns.j0 k a1 a2 l3 (!t443) a0_0 l0_1)) else (impl_StandIns.j0 k a1 a2 l3 true a0_0 l0_1))) else (impl_StandIns.j0 k a1 a2 l3 true a0_0 l0_1)))=some r:=by rw [if_neg (show ¬ (false=true) by decide)] at H;exact H
   clear H
   have H:=H1
   clear H1
   replace H:=Option.bind_eq_some_iff.mp H
   obtain ⟨t441,A90,H⟩:=H
   replace H:(if t441=true then ((impl_isNode.f a2).bind fun t442=>(if t442=true then ((impl_isRising.f k l3 5).bind fun t443=>(impl_StandIns.j0 k a1 a2 l3 (!t443) a0_0 l0_1)) else (impl_StandIns.j0 k a1 a2 l3 true a0_0 l0_1))) else (impl_StandIns.j0 k a1 a2 l3 true a0_0 l0_1))=some r:=H
   have A9:=Aside0.mk A90
   clear A90
   by_cases c10:t441=true
   ·subst c10
    have H1:((impl_isNode.f a2).bind fun t442=>(if t442=true then ((impl_isRising.f k l3 5).bind fun t443=>(impl_StandIns.j0 k a1 a2 l3 (!t443) a0_0 l0_1)) else (impl_StandIns.j0 k a1 a2 l3 true a0_0 l0_1)))=some r:=by rw [if_pos rfl] at H;exact H
    clear H
    have H:=H1
    clear H1
    replace H:=Option.bind_eq_some_iff.mp H
    obtain ⟨t442,A110,H⟩:=H
    replace H:(if t442=true then ((impl_isRising.f k l3 5).bind fun t443=>(impl_StandIns.j0 k a1 a2 l3 (!t443) a0_0 l0_1)) else (impl_StandIns.j0 k a1 a2 l3 true a0_0 l0_1))=some r:=H
    have A11:=Aside0.mk A110
    clear A110
    by_cases c12:t442=true
    ·subst c12
     have H1:((impl_isRising.f k l3 5).bind fun t443=>(impl_StandIns.j0 k a1 a2 l3 (!t443) a0_0 l0_1))=some r:=by rw [if_pos rfl] at H;exact H
     clear H
     have H:=H1
     clear H1
     replace H:=Option.bind_eq_some_iff.mp H
     obtain ⟨t443,A130,H⟩:=H
     replace H:(impl_StandIns.j0 k a1 a2 l3 (!t443) a0_0 l0_1)=some r:=H
     have A13:=Aside0.mk A130
     clear A130
     have H':=Aside0.mk H
     clear H
     go_wp2_with (first | ((with_reducible refine gc_ 32 ?_);refine gl_ (some 13) Tryd.func32 #[.slice A3 l3.length c3] ?_;(with_reducible refine (impl_isMany_int64.calls _ _ l3 false _ ?s1 ?s2 A7.out).mono ?_);(case s1=>repeat (first | exact (Kd.C_below HR3.out HB.out) | (with_reducible refine Kd.C_alloc ?_ _) | (with_reducible refine Kd.C_drewN ?_ _) | (with_reducible refine Kd.C_drew ?_)));(case s2=>exact HC3.out);rintro e w' ⟨rfl,⟨nd,rfl⟩⟩;refine ⟨_,rfl,?_⟩;have ⟨hcz14_0,hcz14_1,hfz14_0,hfz14_1⟩:=cz2_ BK439.out) | (go_at_call 24;(with_reducible refine (impl_isKeyed.calls k a0_0 _ _ l0_1 a1 true _ ?s1 ?s2 A9.out).mono ?_);(case s1=>repeat (first | exact (Kd.C_below HR0_1.out (z4_ HB.out GE439.out)) | (with_reducible refine Kd.C_alloc ?_ _) | (with_reducible refine Kd.C_drewN ?_ _) | (with_reducible refine Kd.C_drew ?_)));(case s2=>exact HC0_1.out);rintro e w15 ⟨rfl,hb⟩;refine as2_ (blkB_ BK439.out hb) (below_step (z4_ HB.out GE439.out) hb) ?_;clear BK439 HB;intro BK439 HB;(try clear hb)) | (go_at_call 26;(with_reducible refine (impl_isNode.calls a2 true _ A11.out).mono ?_);rintro e w' ⟨rfl,⟨nd,rfl⟩⟩) | (go_at_call 33;(with_reducible refine (impl_isRising.calls k _ _ l3 5 t443 _ ?s1 ?s2 A13.out).mono ?_);(case s1=>repeat (first | exact (Kd.C_below HR3.out (z4_ HB.out GE439.out)) | (with_reducible refine Kd.C_alloc ?_ _) | (with_reducible refine Kd.C_drewN ?_ _) | (with_reducible refine Kd.C_drew ?_)));(case s2=>exact HC3.out);rintro e w' ⟨rfl,⟨nd,rfl⟩⟩))
     go_meet
     case rel=>exact ⟨_,(!t443),(z1_),H',⟨by first | omega | exact Nat.le_refl _⟩,⟨z3_ BK439.out⟩,⟨z4_ HB.out GE439.out⟩⟩
    ·replace c12:=Bool.eq_false_iff.mpr c12
     subst c12
     have H1:(impl_StandIns.j0 k a1 a2 l3 true a0_0 l0_1)=some r:=by rw [if_neg (show ¬ (false=true) by decide)] at H;exact H
     clear H
     have H:=H1
     clear H1
     have H':=Aside0.mk H
     clear H
     go_wp2_with (first | ((with_reducible refine gc_ 32 ?_);refine gl_ (some 13) Tryd.func32 #[.slice A3 l3.length c3] ?_;(with_reducible refine (impl_isMany_int64.calls _ _ l3 false _ ?s1 ?s2 A7.out).mono ?_);(case s1=>repeat (first | exact (Kd.C_below HR3.out HB.out) | (with_reducible refine Kd.C_alloc ?_ _) | (with_reducible refine Kd.C_drewN ?_ _) | (with_reducible refine Kd.C_drew ?_)));(case s2=>exact HC3.out);rintro e w' ⟨rfl,⟨nd,rfl⟩⟩;refine ⟨_,rfl,?_⟩;have ⟨hcz16_0,hcz16_1,hfz16_0,hfz16_1⟩:=cz2_ BK439.out) | (go_at_call 24;(with_reducible refine (impl_isKeyed.calls k a0_0 _ _ l0_1 a1 true _ ?s1 ?s2 A9.out).mono ?_);(case s1=>repeat (first | exact (Kd.C_below HR0_1.out (z4_ HB.out GE439.out)) | (with_reducible refine Kd.C_alloc ?_ _) | (with_reducible refine Kd.C_drewN ?_ _) | (with_reducible refine Kd.C_drew ?_)));(case s2=>exact HC0_1.out);rintro e w17 ⟨rfl,hb⟩;refine as2_ (blkB_ BK439.out hb) (below_step (z4_ HB.out GE439.out) hb) ?_;clear BK439 HB;intro BK439 HB;(try clear hb)) | (go_at_call 26;(with_reducible refine (impl_isNode.calls a2 false _ A11.out).mono ?_);rintro e w' ⟨rfl,⟨nd,rfl⟩⟩))
     go_meet
     case rel=>exact ⟨_,(true),(z1_),H',⟨by first | omega | exact Nat.le_refl _⟩,⟨z3_ BK439.out⟩,⟨z4_ HB.out GE439.out⟩⟩
   ·replace c10:=Bool.eq_false_iff.mpr c10
    subst c10
    have H1:(impl_StandIns.j0 k a1 a2 l3 true a0_0 l0_1)=some r:=by rw [if_neg (show ¬ (false=true) by decide)] at H;exact H
    clear H
    have H:=H1
    clear H1
    have H':=Aside0.mk H
    clear H
    go_wp2_with (first | ((with_reducible refine gc_ 32 ?_);refine gl_ (some 13) Tryd.func32 #[.slice A3 l3.length c3] ?_;(with_reducible refine (impl_isMany_int64.calls _ _ l3 false _ ?s1 ?s2 A7.out).mono ?_);(case s1=>repeat (first | exact (Kd.C_below HR3.out HB.out) | (with_reducible refine Kd.C_alloc ?_ _) | (with_reducible refine Kd.C_drewN ?_ _) | (with_reducible refine Kd.C_drew ?_)));(case s2=>exact HC3.out);rintro e w' ⟨rfl,⟨nd,rfl⟩⟩;refine ⟨_,rfl,?_⟩;have ⟨hcz18_0,hcz18_1,hfz18_0,hfz18_1⟩:=cz2_ BK439.out) | (go_at_call 24;(with_reducible refine (impl_isKeyed.calls k a0_0 _ _ l0_1 a1 false _ ?s1 ?s2 A9.out).mono ?_);(case s1=>repeat (first | exact (Kd.C_below HR0_1.out (z4_ HB.out GE439.out)) | (with_reducible refine Kd.C_alloc ?_ _) | (with_reducible refine Kd.C_drewN ?_ _) | (with_reducible refine Kd.C_drew ?_)));(case s2=>exact HC0_1.out);rintro e w19 ⟨rfl,hb⟩;refine as2_ (blkB_ BK439.out hb) (below_step (z4_ HB.out GE439.out) hb) ?_;clear BK439 HB;intro BK439 HB;(try clear hb)))
    go_meet
    case rel=>exact ⟨_,(true),(z1_),H',⟨by first | omega | exact Nat.le_refl _⟩,⟨z3_ BK439.out⟩,⟨z4_ HB.out GE439.out⟩⟩
 case rest =>
  clear HC5
  try clear c1
  try clear p2
  try clear c3
  try clear c8
  try clear c10
  try clear c12
  try clear c16
  try clear hcz14_0
  try clear hcz14_1
  try clear hcz16_0
  try clear hcz16_1
  try clear hcz18_0
  try clear hcz18_1
  try clear hfz14_0
  try clear hfz14_1
  try clear hfz16_0
  try clear hfz16_1
  try clear hfz18_0
  try clear hfz18_1
  obtain ⟨kq,x29_4,rfl,HA,HJ4,BK439,HB⟩:=hcut
  cases kq with
  | zero=>exact absurd HA.out (by simp [impl_StandIns.j0])
  | succ kj4 =>
   have H:=HA.out
   clear HA
   simp only [impl_StandIns.j0] at H
   by_cases c20:x29_4=true
   ·subst c20
    have H1:(some ([]:List Int))=some r:=by rw [if_pos rfl] at H;exact H
    clear H
    have H:=H1
    clear H1
    obtain rfl:=Option.some.inj H
    go_wp2
    go_ret
    exact ⟨_,z10_,z28_,z4_ HB.out GE439.out⟩
   ·replace c20:=Bool.eq_false_iff.mpr c20
    subst c20
    have H1:((impl_places.f kj4 a0_0 l0_1 a1 a2 l3).bind fun t444=>(impl_StandIns.l0 kj4 ([]:List Int) t444 (t444.length:Int) 0))=some r:=by rw [if_neg (show ¬ (false=true) by decide)] at H;exact H
    clear H
    have H:=H1
    clear H1
    replace H:=Option.bind_eq_some_iff.mp H
    obtain ⟨t444,A210,H⟩:=H
    replace H:(impl_StandIns.l0 kj4 ([]:List Int) t444 (t444.length:Int) 0)=some r:=H
    have A21:=Aside0.mk A210
    clear A210
    have H':=Aside0.mk H
    clear H
    have ⟨hcz22_0,hcz22_1,hfz22_0,hfz22_1⟩:=cz2_ BK439.out
    go_wp2_with (first | ((with_reducible refine gc_ 34 ?_);refine gl_ (some 34) Tryd.func34 #[.agg #[.int .i64 a0_0,.slice A0_1 l0_1.length c0_1],.string a1,.int .i64 a2,.slice A3 l3.length c3] ?_;(with_reducible refine (impl_places.calls kj4 a0_0 _ _ l0_1 a1 a2 _ _ l3 t444 _ ?s1 ?s2 ?s3 ?s4 A21.out).mono ?_);(case s1=>repeat (first | exact (Kd.C_below HR0_1.out HB.out) | (with_reducible refine Kd.C_alloc ?_ _) | (with_reducible refine Kd.C_drewN ?_ _) | (with_reducible refine Kd.C_drew ?_)));(case s2=>exact HC0_1.out);(case s3=>repeat (first | exact (Kd.C_below HR3.out HB.out) | (with_reducible refine Kd.C_alloc ?_ _) | (with_reducible refine Kd.C_drewN ?_ _) | (with_reducible refine Kd.C_drew ?_)));(case s4=>exact HC3.out);rintro e w23 ⟨v445,rfl,ho0,hb⟩;refine ⟨_,rfl,?_⟩;refine as3_ (Kd.R_lower ho0 (below_size (z4_ HB.out GE439.out))) (blkB_ BK439.out hb) (below_step (z4_ HB.out GE439.out) hb) ?_;clear BK439 HB;intro HO446 BK439 HB;(try clear hb);(try clear ho0);obtain ⟨Ao24,co24,eo24⟩:=Kd.R_slice HO446.out;subst eo24))
    go_loopg [9,36] kj4 (fun kq v9 v36 w'=>∃ (x9_2:List Int) (x36_2:Int),v36 = .int .i64 x36_2∧Aside0 (impl_StandIns.l0 kq x9_2 t444 (t444.length:Int) x36_2=some r)∧Aside0 (kq≤kj4)∧Aside0 (Kd.R (Kd.int .i64) 2 w' w.heap.size (fun _=>True) v9 x9_2)∧Aside0 (Kd.R k56 56 w' w.heap.size (fun _=>True) (.slice Ao24 t444.length co24) t444)∧Aside0 (w'.heap[gb439]? = some (.cells #[.int .i64 a0_0,(.slice A0_1 l0_1.length c0_1)] 30 (0,0)))∧Aside0 (Below w.heap.size w w'))
    case atStart=>exact ⟨(([]:List Int)),(0),(z1_),H',⟨Nat.le_refl _⟩,⟨z28_⟩,⟨z2_ HO446.out⟩,⟨z3_ BK439.out⟩,⟨z4_ HB.out GE439.out⟩⟩
    case round =>
     clear H'
     try clear c1
     try clear c2
     try clear p2
     try clear c3
     try clear c8
     try clear c10
     try clear c12
     try clear c16
     try clear c20
     try clear hcz14_0
     try clear hcz14_1
     try clear hcz16_0
     try clear hcz16_1
     try clear hcz18_0
     try clear hcz18_1
     try clear hcz22_0
     try clear hcz22_1
     try clear hfz14_0
     try clear hfz14_1
     try clear hfz16_0
     try clear hfz16_1
     try clear hfz18_0
     try clear hfz18_1
     try clear hfz22_0
     try clear hfz22_1
     try clear p2
     obtain ⟨x9_2,x36_2,rfl,HA,HK2,HO_9,HO_34,BK439,HB⟩:=hrel
     cases gk with
     | zero=>exact absurd HA.out (by simp [impl_StandIns.l0])
     | succ k2 =>
      have H:=HA.out
      clear HA
      simp only [impl_StandIns.l0] at H
      by_cases c25:x36_2<(t444.length:Int)
      ·rw [if_pos c25] at H
       have c25b0:decide (x36_2<(t444.length:Int))=true:=decide_eq_true c25
       clear c25
       by_cases c26:0≤x36_2
       ·rw [if_pos c26] at H
        have c26b0:decide (0≤x36_2)=true:=decide_eq_true c26
        clear c26
        by_cases c27:x36_2<(t444.length:Int)
        ·rw [if_pos c27] at H
         have c27b0:decide (x36_2<(t444.length:Int))=true:=decide_eq_true c27
         clear c27
         by_cases c28:x9_2.length<17592186044416
         ·rw [if_pos c28] at H
          have LMc28:=Aside0.mk c28
          clear c28
          obtain ⟨y449,hy449⟩:∃ y_:List Int,y_=(x9_2 ++ [(rd_T56 t444 x36_2).f0]):=⟨_,rfl⟩
          replace H:(impl_StandIns.l0 k2 y449 t444 (t444.length:Int) (wrap64 (x36_2+1)))=some r:=by first | (rw [hy449];with_reducible exact H) | (have H2_:=(Option.bind_some _ _).symm.trans H;rw [hy449];with_reducible exact H2_) | (have H2_:=(Option.bind_some _ _).symm.trans H;with_reducible exact H2_) | with_reducible exact H | (rw [hy449];exact H) | exact H
          have Ny449:=Aside0.mk hy449
          clear hy449
          have H':=Aside0.mk H
          clear H
          have p447:0≤(x36_2:Int):=of_decide_eq_true (z0_)
          have q447:x36_2<(t444.length:Int):=of_decide_eq_true (z0_)
          obtain ⟨ad447,e447,hx447_0,hx447_1⟩:=at_T56 (Kd.R_reads' HO_34.out).2.2 x36_2 p447 q447
          cases e447
          replace p447:=eq_true p447
          replace q447:=eq_true q447
          go_wp2_with (first | ((with_reducible refine gd_ 11 ?_);refine be_ 11 #[.int .i64 0,.int .i64 0] 56 ?_;intro gb448 hg w29 hbox hb;refine as9_ (Kd.R_below (z2_ HO_9.out) hb) (Kd.R_below (Kd.R_elderB (z2_ HO_34.out) gb448 (Nat.le_of_eq hg.symm)) hb) (blkB_ BK439.out hb) (below_step (z4_ HB.out GE439.out) hb) (hbox) ((z12_ HB.out GE439.out:w.heap.size≤gb448)) ((z12_ HB.out GE439.out:w.heap.size≤gb448)) (neL_ BK439.out hg) (neG_ BK439.out hg) ?_;clear HO_9 HO_34 BK439 HB;intro HO_9 HO_34 BK439 HB BK448 GW448 GE448 NB439_448 NB448_439;clear hb hbox hg;have hnb30:=NB448_439.out;have hnc30:=NB439_448.out;have ⟨hcz31_0,hcz31_1,hfz31_0,hfz31_1⟩:=cz2_ BK448.out) | ((with_reducible refine gate_builtin (b:=.append) (xs:=#[.tmp 40,.tmp 43]) rfl ?_);at_builtin;refine Kd.R_append (Kd.int .i64) (w0:=w) w.heap.size rfl (.tmp 40) (.tmp 43) 26 2 (.int .i64 0) 8 rfl Tryd.underlying26 info2 rfl (by decide) (by omega) u9 x9_2 ((rd_T56 t444 x36_2).f0) [.int .i64 ((rd_T56 t444 x36_2).f0)] (fun _=>True) (fun _=>False) rfl (by first | (go_simp;done) | (go_simp;rfl)) ?aP (fun _ hk=>hk.elim) ?aF ?aO ?aB ?aS ?aL ?_;(case aP=>exact rfl);(case aB=>exact (z7_ HB.out GE439.out GE448.out));(case aF=>exact (fun _ _=>trivial));(case aO=>exact (z36_ HO_9.out BK448.out));(case aS=>exact (below_size (z7_ HB.out GE439.out GE448.out)));(case aL=>have:=LMc28.out;omega);intro v450 w32 ho hb hg hat;rw [← Ny449.out] at ho;refine as5_ (Kd.R_over' (by (with_reducible repeat (first | apply Kd.R_alloc | apply Kd.R_drewN | apply Kd.R_drew));exact (Kd.R_mono (rf2_ (Kd.R_mono HO_34.out (fun k_ hk=>(⟨hk,hk.2⟩:_∧k_≠gb448))) (fun _ hk=>hk.2)) (fun _ h_=>h_.1))) (Kd.R_typed (z27_ HO_9.out BK448.out)) (by decide) hg) (blk_grown (g:=gb439) (o:=.cells #[.int .i64 a0_0,.slice A0_1 l0_1.length c0_1] 30 (0,0)) (z26_ NB439_448.out BK439.out) hg (Kd.R_ne HO_9.out BK439.out (by decide))) (blk_grown (g:=gb448) (o:=.cells #[.int .i64 ((rd_T56 t444 x36_2).f0),.int .i64 ((rd_T56 t444 x36_2).f1)] 56 (0,0)) (z24_ BK448.out) hg (Kd.R_ne HO_9.out BK448.out (by decide))) (hb) (ho) ?_;clear HO_34 BK439 BK448 HB HO_9;intro HO_34 BK439 BK448 HB HO451;clear ho hb hg hat))
          go_roundg k2
          case measure=>have:=HJ4.out;have:=HK2.out;omega
          case rel=>exact ⟨(y449),(wrap64 (x36_2+1)),(z1_),H',⟨z13_ HJ4.out HK2.out⟩,⟨z2_ HO451.out⟩,⟨z34_ HO_34.out⟩,⟨z3_ BK439.out⟩,⟨z7_ HB.out GE439.out GE448.out⟩⟩
         ·rw [if_neg c28] at H
          exact absurd H (by simp)
        ·rw [if_neg c27] at H
         exact absurd H (by simp)
       ·rw [if_neg c26] at H
        exact absurd H (by simp)
      ·rw [if_neg c25] at H
       have c25b0:decide (x36_2<(t444.length:Int))=false:=decide_eq_false c25
       clear c25
       obtain rfl:=Option.some.inj H
       go_wp2
       go_ret
       exact ⟨_,z10_,z2_ HO_9.out,z4_ HB.out GE439.out⟩

end Go.Proofs.YtelanedlpedfcaaDoor.P
