/- For all pairs of rings, keys and numbers the program's Newcomers and the reference's return the same, of memory of its own, and the rings stay as they were. No condition. (Part 3 of 5: written by programs of this workplace and by hand, merged.) -/
import Derived.Test.YtelecnmflodkkaaDoorMFnExactNewcomersa
import Derived.Test.YtelecnmflodkkaaDoorMFnExactNewcomersb
import Derived.Lib.SliceRun
set_option linter.unusedVariables false
set_option linter.unusedSimpArgs false

namespace Go.Proofs.YtelecnmflodkkaaDoor.P
open Go.RowKit Go.Proofs.YtelecnmflodkkaaDoorW.PrintWords Go.Proofs.YtelecnmflodkkaaDoorW.PrintLast Go.Proofs.YtelecnmflodkkaaDoorW.PrintMore
attribute [local go_sem] max2_int min2_int max_two min_two max_three min_three max_four min_four   -- for this text's walks alone
set_option linter.unusedVariables false
set_option linter.unusedSimpArgs false

/-! ### impl_ringNew: function 43 -/
mutual
def impl_ringNew.l0:Nat→Int→Int→Int→Int→List (S77)→Option (Int × (List (S77)))
 | 0,_,_,_,_,_=>none
 | k+1,x0,x1,x6,x241000,x241001=>if x6≤x0 then (impl_ringNew.l1 k x0 x1 x6 1 x241000 x241001) else ((slices_SortFunc_impl_Token_impl_Token_impl_ringNew_1.f k x241001).bind fun t241=>(some (x241000,t241)))
def impl_ringNew.l1:Nat→Int→Int→Int→Int→Int→List (S77)→Option (Int × (List (S77)))
 | 0,_,_,_,_,_,_=>none
 | k+1,x0,x1,x6,x7,x241000,x241001=>if x7≤x1 then ((impl_decimal.f k x6).bind fun t242=>(if t242.size+1≤9223372036854775807 then ((impl_decimal.f k x7).bind fun t243=>(if (t242.size+1)+t243.size≤9223372036854775807 then ((impl_fnv.f k ((t242 ++ (⟨#[45]⟩:ByteArray)) ++ t243)).bind fun t244=>(if x241001.length<8796093022208 then (impl_ringNew.l1 k x0 x1 x6 (wrap64 (x7+1)) x241000 (x241001 ++ [(⟨t244,x6⟩:S77)])) else (none))) else (none))) else (none))) else (impl_ringNew.l0 k x0 x1 (wrap64 (x6+1)) x241000 x241001)
end
def impl_ringNew.f (k:Nat) (a0:Int) (a1:Int):Option (Int × (List (S77))):=impl_ringNew.l0 k a0 a1 1 a0 ([]:List (S77))
theorem impl_ringNew.mono_l:∀ k,(∀ y0 y1 y2 y3 y4,LeO (impl_ringNew.l0 k y0 y1 y2 y3 y4) (impl_ringNew.l0 (k+1) y0 y1 y2 y3 y4))∧(∀ y0 y1 y2 y3 y4 y5,LeO (impl_ringNew.l1 k y0 y1 y2 y3 y4 y5) (impl_ringNew.l1 (k+1) y0 y1 y2 y3 y4 y5))
 | 0=>⟨fun _ _ _ _ _ r h=>by simp [impl_ringNew.l0] at h,fun _ _ _ _ _ _ r h=>by simp [impl_ringNew.l1] at h⟩
 | k+1=>by
  obtain ⟨ih0,ih1⟩:=impl_ringNew.mono_l k
  refine ⟨?_,?_⟩
  ·intro y0 y1 y2 y3 y4
   unfold impl_ringNew.l0
   repeat' first
   | (with_reducible exact ih0 _ _ _ _ _)
   | (with_reducible exact ih1 _ _ _ _ _ _)
   | (with_reducible exact impl_decimal.mono _ _)
   | (with_reducible exact impl_fnv.mono _ _)
   | (with_reducible exact slices_SortFunc_impl_Token_impl_Token_impl_ringNew_1.mono _ _)
   | (with_reducible exact LeO.refl _)
   | (with_reducible exact LeO.none _)
   | (with_reducible refine LeO.ite ?_ ?_)
   | (with_reducible refine LeO.bind ?_ (fun _=>?_))
   | exact ih0 _ _ _ _ _
   | exact ih1 _ _ _ _ _ _
   | exact impl_decimal.mono _ _
   | exact impl_fnv.mono _ _
   | exact slices_SortFunc_impl_Token_impl_Token_impl_ringNew_1.mono _ _
   | exact LeO.none _
   | refine LeO.ite ?_ ?_
   | refine LeO.bind ?_ (fun _=>?_)
  ·intro y0 y1 y2 y3 y4 y5
   unfold impl_ringNew.l1
   repeat' first
   | (with_reducible exact ih0 _ _ _ _ _)
   | (with_reducible exact ih1 _ _ _ _ _ _)
   | (with_reducible exact impl_decimal.mono _ _)
   | (with_reducible exact impl_fnv.mono _ _)
   | (with_reducible exact slices_SortFunc_impl_Token_impl_Token_impl_ringNew_1.mono _ _)
   | (with_reducible exact LeO.refl _)
   | (with_reducible exact LeO.none _)
   | (with_reducible refine LeO.ite ?_ ?_)
   | (with_reducible refine LeO.bind ?_ (fun _=>?_))
   | exact ih0 _ _ _ _ _
   | exact ih1 _ _ _ _ _ _
   | exact impl_decimal.mono _ _
   | exact impl_fnv.mono _ _
   | exact slices_SortFunc_impl_Token_impl_Token_impl_ringNew_1.mono _ _
   | exact LeO.none _
   | refine LeO.ite ?_ ?_
   | refine LeO.bind ?_ (fun _=>?_)
theorem impl_ringNew.mono:∀ a0 a1 k,LeO (impl_ringNew.f k a0 a1) (impl_ringNew.f (k+1) a0 a1):=by
 intro a0 a1 k
 obtain ⟨ih0,ih1⟩:=impl_ringNew.mono_l k
 unfold impl_ringNew.f
 repeat' first
   | (with_reducible exact ih0 _ _ _ _ _)
   | (with_reducible exact ih1 _ _ _ _ _ _)
   | (with_reducible exact impl_decimal.mono _ _)
   | (with_reducible exact impl_fnv.mono _ _)
   | (with_reducible exact slices_SortFunc_impl_Token_impl_Token_impl_ringNew_1.mono _ _)
   | (with_reducible exact LeO.refl _)
   | (with_reducible exact LeO.none _)
   | (with_reducible refine LeO.ite ?_ ?_)
   | (with_reducible refine LeO.bind ?_ (fun _=>?_))
   | exact ih0 _ _ _ _ _
   | exact ih1 _ _ _ _ _ _
   | exact impl_decimal.mono _ _
   | exact impl_fnv.mono _ _
   | exact slices_SortFunc_impl_Token_impl_Token_impl_ringNew_1.mono _ _
   | exact LeO.none _
   | refine LeO.ite ?_ ?_
   | refine LeO.bind ?_ (fun _=>?_)
def impl_ringNew.T8:Bool × List (List Nat × List Nat):=(true,[([],[]),([0],[0]),([],[]),([2],[2]),([3],[3]),([],[]),([5,3],[5]),([4,6],[4,6]),([7,6],[7]),([],[]),([8,9],[8,9]),([10],[10]),([1,11,8],[1,11]),([0,1,2,3,4,5,6,7,8,9,10,11,12],[]),([13,12,12,0,1,2,3,4,5,6,7,8,9,10,11,12],[12,13])])
def impl_ringNew.B8:List Nat:=[0,1,0,4,12,0,44,124,252,0,1020,2044,4095,8191,16383]
theorem impl_ringNew.tab8:rtab .any (opsOf Tryd.f43 8)=impl_ringNew.T8:=by kernel_rfl
theorem impl_ringNew.bits8:waitsOk impl_ringNew.T8.2 impl_ringNew.B8=true:=by kernel_rfl
set_option maxHeartbeats 8000000 in
set_option maxRecDepth 100000 in
theorem impl_ringNew.calls (k:Nat) (a0:Int) (a1:Int) (r1:Int) (r2:List (S77)) (w:World) (h:impl_ringNew.f k a0 a1=some (r1,r2)) :
  Calls Tryd.prog 43 #[.int .i64 a0,.int .i64 a1] w fun e w'=>∃ v1_:Value,e = .returned (.agg #[.int .i64 r1,v1_])∧Kd.R k77 77 w' w.heap.size (fun _=>True) v1_ r2∧Below w.heap.size w w':=by
 have hu24:=Tryd.underlying24
 have hu77:=Tryd.underlying77
 have HB:=Aside0.mk (Below.refl w.heap.size w)
 have H:(impl_ringNew.l0 k a0 a1 1 a0 ([]:List (S77)))=some (r1,r2):=h
 clear h
 have H':=Aside0.mk H
 clear H
 go_enter Tryd.func43,Tryd.ntmps43
 go_wp2_with (first | ((with_reducible refine gd_ 4 ?_);refine be_ 4 #[.int .i64 0,.slice none 0 0] 24 ?_;intro gb239 hg w3 hbox hb;refine as4_ (below_step (z4_ HB.out) hb) (hbox) ((z8_ HB.out:w.heap.size≤gb239)) ((z8_ HB.out:w.heap.size≤gb239)) ?_;clear HB;intro HB BK239 GW239 GE239;clear hb hbox hg) | ((with_reducible refine gd_ 5 ?_);refine be_ 5 #[.int .i64 0,.slice none 0 0] 24 ?_;intro gb240 hg w4 hbox hb;refine as7_ (blkB_ BK239.out hb) (below_step (z7_ HB.out GE239.out) hb) (hbox) ((z11_ HB.out GE239.out:w.heap.size≤gb240)) ((z11_ HB.out GE239.out:w.heap.size≤gb240)) (neL_ BK239.out hg) (neG_ BK239.out hg) ?_;clear BK239 HB;intro BK239 HB BK240 GW240 GE240 NB239_240 NB240_239;clear hb hbox hg;have hnb5:=NB240_239.out;have hnc5:=NB239_240.out;have ⟨hcz6_0,hcz6_1,hfz6_0,hfz6_1⟩:=cz2_ BK240.out))
 go_loopg [6] k (fun kq v6 w'=>∃ (x6_1:Int) (x241001_1:List (S77)) (u241001:Value),v6 = .int .i64 x6_1∧Aside0 (impl_ringNew.l0 kq a0 a1 x6_1 a0 x241001_1=some (r1,r2))∧Aside0 (kq≤k)∧Aside0 (Kd.R k77 77 w' w.heap.size (fun _=>True) u241001 x241001_1)∧Aside0 (w'.heap[gb239]? = some (.cells #[.int .i64 0,(.slice none 0 0)] 24 (0,0)))∧Aside0 (w'.heap[gb240]? = some (.cells #[.int .i64 a0,u241001] 24 (0,0)))∧Aside0 (Below w.heap.size w w'))
 case atStart=>exact ⟨(1),(([]:List (S77))),(.slice none 0 0),(z2_),H',⟨Nat.le_refl _⟩,⟨z37_⟩,⟨z20_ NB239_240.out BK239.out⟩,⟨z27_ BK240.out⟩,⟨z5_ HB.out GE239.out GE240.out⟩⟩
 case round =>
  clear H'
  try clear p2
  try clear c4
  try clear c5
  try clear hcz6_0
  try clear hcz6_1
  try clear hfz6_0
  try clear hfz6_1
  obtain ⟨x6_1,x241001_1,u241001,rfl,HA,HK1,HO_241001,BK239,BK240,HB⟩:=hrel
  cases gk with
  | zero=>exact absurd HA.out (by simp [impl_ringNew.l0])
  | succ k1 =>
   have H:=HA.out
   clear HA
   simp only [impl_ringNew.l0] at H
   by_cases c7:x6_1≤a0
   ·rw [if_pos c7] at H
    have c7b0:decide (x6_1≤a0)=true:=decide_eq_true c7
    clear c7
    have H':=Aside0.mk H
    clear H
    go_wp2
    go_loopg [7] k1 (fun kq v7 w'=>∃ (x7_2:Int) (x241001_2:List (S77)) (u241001:Value),v7 = .int .i64 x7_2∧Aside0 (impl_ringNew.l1 kq a0 a1 x6_1 x7_2 a0 x241001_2=some (r1,r2))∧Aside0 (kq≤k1)∧Aside0 (Kd.R k77 77 w' w.heap.size (fun _=>True) u241001 x241001_2)∧Aside0 (w'.heap[gb239]? = some (.cells #[.int .i64 0,(.slice none 0 0)] 24 (0,0)))∧Aside0 (w'.heap[gb240]? = some (.cells #[.int .i64 a0,u241001] 24 (0,0)))∧Aside0 (Below w.heap.size w w'))
    case atStart=>exact ⟨(1),(x241001_1),(u241001),(z2_),H',⟨Nat.le_refl _⟩,⟨z1_ HO_241001.out⟩,⟨z3_ BK239.out⟩,⟨z3_ BK240.out⟩,⟨z5_ HB.out GE239.out GE240.out⟩⟩
    case round =>
     clear H'
     try clear p2
     try clear c4
     try clear c5
     try clear c7
     try clear c7b0
     try clear hcz6_0
     try clear hcz6_1
     try clear hfz6_0
     try clear hfz6_1
     try clear p2
     obtain ⟨x7_2,x241001_2,u241001,rfl,HA,HK2,HO_241001,BK239,BK240,HB⟩:=hrel
     cases gk with
     | zero=>exact absurd HA.out (by simp [impl_ringNew.l1])
     | succ k2 =>
      have H:=HA.out
      clear HA
      simp only [impl_ringNew.l1] at H
      by_cases c8:x7_2≤a1
      ·rw [if_pos c8] at H
       have c8b0:decide (x7_2≤a1)=true:=decide_eq_true c8
       clear c8
       replace H:=Option.bind_eq_some_iff.mp H
       obtain ⟨t242,A90,H⟩:=H
       replace H:(if t242.size+1≤9223372036854775807 then ((impl_decimal.f k2 x7_2).bind fun t243=>(if (t242.size+1)+t243.size≤9223372036854775807 then ((impl_fnv.f k2 ((t242 ++ (⟨#[45]⟩:ByteArray)) ++ t243)).bind fun t244=>(if x241001_2.length<8796093022208 then (impl_ringNew.l1 k2 a0 a1 x6_1 (wrap64 (x7_2+1)) a0 (x241001_2 ++ [(⟨t244,x6_1⟩:S77)])) else (none))) else (none))) else (none))=some (r1,r2):=H
       have A9:=Aside0.mk A90
       clear A90
       by_cases c10:t242.size+1≤9223372036854775807
       ·rw [if_pos c10] at H
        have c10b0:=eq_true c10
        have c10b1:decide (t242.size+1≤9223372036854775807)=true:=decide_eq_true c10
        try have c10b2:(9223372036854775807<t242.size+1)=False:=eq_false (Nat.not_lt.2 c10)
        replace H:=Option.bind_eq_some_iff.mp H
        obtain ⟨t243,A110,H⟩:=H
        replace H:(if (t242.size+1)+t243.size≤9223372036854775807 then ((impl_fnv.f k2 ((t242 ++ (⟨#[45]⟩:ByteArray)) ++ t243)).bind fun t244=>(if x241001_2.length<8796093022208 then (impl_ringNew.l1 k2 a0 a1 x6_1 (wrap64 (x7_2+1)) a0 (x241001_2 ++ [(⟨t244,x6_1⟩:S77)])) else (none))) else (none))=some (r1,r2):=H
        have A11:=Aside0.mk A110
        clear A110
        by_cases c12:(t242.size+1)+t243.size≤9223372036854775807
        ·rw [if_pos c12] at H
         have c12b0:=eq_true c12
         have c12b1:decide ((t242.size+1)+t243.size≤9223372036854775807)=true:=decide_eq_true c12
         try have c12b2:(9223372036854775807<(t242.size+1)+t243.size)=False:=eq_false (Nat.not_lt.2 c12)
         replace H:=Option.bind_eq_some_iff.mp H
         obtain ⟨t244,A130,H⟩:=H
         replace H:(if x241001_2.length<8796093022208 then (impl_ringNew.l1 k2 a0 a1 x6_1 (wrap64 (x7_2+1)) a0 (x241001_2 ++ [(⟨t244,x6_1⟩:S77)])) else (none))=some (r1,r2):=H
         have A13:=Aside0.mk A130
         clear A130
         by_cases c14:x241001_2.length<8796093022208
         ·rw [if_pos c14] at H
          have LMc14:=Aside0.mk c14
          clear c14
          obtain ⟨y245,hy245⟩:∃ y_:List (S77),y_=(x241001_2 ++ [(⟨t244,x6_1⟩:S77)]):=⟨_,rfl⟩
          replace H:(impl_ringNew.l1 k2 a0 a1 x6_1 (wrap64 (x7_2+1)) a0 y245)=some (r1,r2):=by first | (rw [hy245];with_reducible exact H) | (have H2_:=(Option.bind_some _ _).symm.trans H;rw [hy245];with_reducible exact H2_) | (have H2_:=(Option.bind_some _ _).symm.trans H;with_reducible exact H2_) | with_reducible exact H | (rw [hy245];exact H) | exact H
          have Ny245:=Aside0.mk hy245
          clear hy245
          have H':=Aside0.mk H
          clear H
          try go_wp2
          refine as4_ (Kd.R_drew HO_241001.out) (blk_drew BK239.out) (blk_drew BK240.out) (below_drew1 HB.out) ?_
          clear HO_241001 BK239 BK240 HB
          intro HO_241001 BK239 BK240 HB
          refine start_ (n:=15) (S:=fun w'=>w'.cell? ⟨gb240,0,none⟩=some (.int .i64 a0)∧w'.cell? ⟨gb240,1,none⟩=some (u241001)) (ds:=[14]) #[O,O,O,O,O,O,O,O,O,O,O,O,O,O,O] (by kernel_rfl) rfl rfl (cc2_ BK240.out) (fun hHeld=>?_);refine with_tabW impl_ringNew.tab8 impl_ringNew.bits8 (fun HT_ HW_=>?_)
          generalize wr.drew=w15 at HO_241001 BK239 BK240 HB hHeld ⊢
          refine pu_ 0 20 #[I,O,O,O,O,O,O,O,O,O,O,O,O,O,O] HT_.out ?_
          refine pu_ 2 22 #[I,O,I,O,O,O,O,O,O,O,O,O,O,O,O] HT_.out ?_
          refine pu_ 5 25 #[I,O,I,O,O,I,O,O,O,O,O,O,O,O,O] HT_.out ?_
          refine pu_ 9 29 #[I,O,I,O,O,I,O,O,O,I,O,O,O,O,O] HT_.out ?_
          refine tk2_ 1 21 #[I,I,I,O,O,I,O,O,O,I,O,O,O,O,O] HT_.out HW_.out hHeld ?_
          refine o1_ 3 23 #[I,I,I,I,O,I,O,O,O,I,O,O,O,O,O] HT_.out (fun K hK=>?_)
          refine gs_ Tryd.func76 #[.int .i64 x6_1] ?_
          with_reducible refine (impl_decimal.calls k2 x6_1 t242 _ A9.out).mono ?_
          rintro e w' ⟨rfl,⟨nd,rfl⟩⟩
          refine ⟨_,rfl,?_⟩
          refine hK.out _ _ (cc2_ BK240.out) (fun hHeld=>?_)
          clear hK K
          refine nm_ 23 ?_
          refine pu_ 4 24 #[I,I,I,I,I,I,O,O,O,I,O,O,O,O,O] HT_.out ?_
          refine o1_ 6 26 #[I,I,I,I,I,I,I,O,O,I,O,O,O,O,O] HT_.out (fun K hK=>?_)
          refine gs_ Tryd.func76 #[.int .i64 x7_2] ?_
          with_reducible refine (impl_decimal.calls k2 x7_2 t243 _ A11.out).mono ?_
          rintro e w' ⟨rfl,⟨nd,rfl⟩⟩
          refine ⟨_,rfl,?_⟩
          refine hK.out _ _ (cc2_ BK240.out) (fun hHeld=>?_)
          clear hK K
          refine nm_ 26 ?_
          refine pu_ 7 27 #[I,I,I,I,I,I,I,I,O,I,O,O,O,O,O] HT_.out ?_
          refine o1_ 8 28 #[I,I,I,I,I,I,I,I,I,I,O,O,O,O,O] HT_.out (fun K hK=>?_)
          refine gs_ Tryd.func75 #[.string ((t242 ++ (⟨#[45]⟩:ByteArray)) ++ t243)] ?_
          with_reducible refine (impl_fnv.calls k2 ((t242 ++ (⟨#[45]⟩:ByteArray)) ++ t243) t244 _ A13.out).mono ?_
          rintro e w' ⟨rfl,⟨nd,rfl⟩⟩
          refine ⟨_,rfl,?_⟩
          refine hK.out _ _ (cc2_ BK240.out) (fun hHeld=>?_)
          clear hK K
          refine nm_ 28 ?_
          refine pu_ 10 30 #[I,I,I,I,I,I,I,I,I,I,I,O,O,O,O] HT_.out ?_
          refine o1_ 11 31 #[I,I,I,I,I,I,I,I,I,I,I,I,O,O,O] HT_.out (fun K hK=>?_)
          refine value_ (w1:=?_) (v:=?_) (by rfl) rfl ?_ ?_
          rotate_left 2
          ·go_simp
           constructor
           ·rfl
           ·rfl
          refine hK.out _ _ (cc2_ (blk_alloc BK240.out _)) (fun hHeld=>?_)
          clear hK K
          refine nm_ 31 ?_
          refine o1_ 12 32 #[I,I,I,I,I,I,I,I,I,I,I,I,I,O,O] HT_.out (fun K hK=>?_)
          refine Kd.R_append_step k77 (w0:=w) w.heap.size (by rfl) (.tmp 21) (.tmp 31) 22 77 (.agg #[(.int .i64 0),(.int .i64 0)]) 16 rfl Tryd.underlying22 info77 rfl (by decide) (by omega) u241001 x241001_2 (⟨t244,x6_1⟩:S77) [.int .i64 t244,.int .i64 x6_1] (fun _=>True) (fun _=>False) rfl rfl ?aP (fun _ hk=>hk.elim) ?aF ?aO ?aB ?aS ?aL ?_
          (case aP=>exact k77_mkM _ _ _ (⟨t244,x6_1⟩:S77))
          (case aB=>exact (z5_ HB.out GE239.out GE240.out))
          (case aF=>exact (fun _ _=>trivial))
          (case aO=>exact (z1_ HO_241001.out))
          (case aS=>exact (below_size (z5_ HB.out GE239.out GE240.out)))
          (case aL=>have:=LMc14.out;omega)
          intro v246 w16 ho hb hg hat
          rw [← Ny245.out] at ho
          refine as4_ (blk_grown (g:=gb239) (o:=.cells #[.int .i64 0,.slice none 0 0] 24 (0,0)) (z3_ BK239.out) hg (Kd.R_ne HO_241001.out BK239.out (by decide))) (blk_grown (g:=gb240) (o:=.cells #[.int .i64 a0,u241001] 24 (0,0)) (z3_ BK240.out) hg (Kd.R_ne HO_241001.out BK240.out (by decide))) (hb) (ho) ?_
          clear BK239 BK240 HB HO_241001
          intro BK239 BK240 HB HO247
          clear ho hb hg hat
          obtain ⟨Ao17,co17,eo17⟩:=Kd.R_slice HO247.out
          (first | subst eo17 | (injection eo17 with f1_ f2_ f3_;have f4_:=f1_.symm;have f5_:=f3_.symm;clear f1_ f2_ f3_;subst f4_;subst f5_))
          refine hK.out _ _ (cc2_ BK240.out) (fun hHeld=>?_)
          clear hK K
          refine nm_ 32 ?_
          refine pu_ 13 33 #[I,I,I,I,I,I,I,I,I,I,I,I,I,I,O] HT_.out ?_
          refine last_ (i:=14) (N:=none) #[I,I,I,I,I,I,I,I,I,I,I,I,I,I,I] rfl rfl (one_of HT_.out (by kernel_rfl)) (by decide) (fun K hK=>?_)
          have hs18:w16.cell? ⟨gb240,1,none⟩=some (u241001):=(blk_cell BK240.out 1).trans rfl
          have hfs18:=blk_frozen BK240.out 1
          have hns18_0:=NB239_240.out
          have hms18_0:=NB240_239.out
          refine skip_ (w1:=?_) (by rfl) rfl ?_ ?_
          rotate_left
          ·go_simp
           rfl
          refine hK.out _ _ ?_
          clear hK K
          refine done_ (done_of HT_.out (by kernel_rfl)) ?_
          try go_wp2
          go_roundg k2
          case measure=>have:=HK1.out;have:=HK2.out;omega
          case rel=>exact ⟨(wrap64 (x7_2+1)),(y245),(.slice Ao17 y245.length co17),(z2_),H',⟨z13_ HK1.out HK2.out⟩,⟨by (with_reducible repeat (first | apply Kd.R_alloc | apply Kd.R_drewN | apply Kd.R_drew));exact Kd.R_mono (Kd.R_far (p:=⟨gb240,1,none⟩) (Kd.R_types HO247.out BK240.out (by decide)) (fun _ hk=>hk.2) (.slice Ao17 y245.length co17)) (fun _ hk=>trivial)⟩,⟨z28_ NB239_240.out BK239.out⟩,⟨by (with_reducible repeat (first | refine blk_drewN ?_ _ | refine blk_drew ?_ | refine blk_alloc ?_ _));refine blk_put (cs:=#[.int .i64 a0,u241001]) ?_ 1 _ rfl;(with_reducible repeat (first | refine blk_drewN ?_ _ | refine blk_drew ?_ | refine blk_alloc ?_ _));exact BK240.out⟩,⟨z5_ HB.out GE239.out GE240.out⟩⟩
         ·rw [if_neg c14] at H
          exact absurd H (by simp)
        ·rw [if_neg c12] at H
         exact absurd H (by simp)
       ·rw [if_neg c10] at H
        exact absurd H (by simp)
      ·rw [if_neg c8] at H
       have c8b0:decide (x7_2≤a1)=false:=decide_eq_false c8
       clear c8
       have H':=Aside0.mk H
       clear H
       go_wp2
       go_roundg k2
       case measure=>have:=HK1.out;have:=HK2.out;omega
       case rel=>exact ⟨(wrap64 (x6_1+1)),(x241001_2),(u241001),(z2_),H',⟨z13_ HK1.out HK2.out⟩,⟨z1_ HO_241001.out⟩,⟨z3_ BK239.out⟩,⟨z3_ BK240.out⟩,⟨z5_ HB.out GE239.out GE240.out⟩⟩
   ·rw [if_neg c7] at H
    have c7b0:decide (x6_1≤a0)=false:=decide_eq_false c7
    clear c7
    replace H:=Option.bind_eq_some_iff.mp H
    obtain ⟨t241,A190,H⟩:=H
    replace H:(some (a0,t241))=some (r1,r2):=H
    have A19:=Aside0.mk A190
    clear A190
    simp only [Option.some.injEq,Prod.mk.injEq] at H
    obtain ⟨rfl,rfl⟩:=H
    have hnb20:=NB240_239.out
    have hnc20:=NB239_240.out
    have ⟨hcz21_0,hcz21_1,hfz21_0,hfz21_1⟩:=cz2_ BK240.out
    obtain ⟨Ao22,co22,eo22⟩:=Kd.R_slice HO_241001.out
    subst eo22
    go_wp2_with (first | ((with_reducible refine gc_ 77 ?_);refine gl_ (some 36) Tryd.func77 #[.slice Ao22 x241001_1.length co22,.func (.func 78) #[] #[]] ?_;(with_reducible refine (slices_SortFunc_impl_Token_impl_Token_impl_ringNew_1.calls k1 (fun k_=>some k_=(.slice Ao22 x241001_1.length co22:Value).ownBlock) (.slice Ao22 x241001_1.length co22) x241001_1  t241 w _ ?s1 ?s2 A19.out).mono ?_);(case s1=>repeat (first | (with_reducible first | exact HB.out | apply below_alloc | apply pw_below_drewN | apply below_drew1 | refine below_set ?_ GE239.out | refine below_set ?_ GE240.out) | exact HB.out));(case s2=>exact Kd.R_tight rfl HO_241001.out);rintro e w23 ⟨rfl,hy0,hb,hkp⟩;refine ⟨_,rfl,?_⟩;refine as4_ (Kd.R_reok rfl hy0 (fun k_ e_=>HO_241001.out.1 k_ e_)) (blk_kept (z3_ BK239.out) hkp (fun hs_=>(fun e_=>(Kd.R_ne HO_241001.out BK239.out (by decide)) e_) hs_)) (blk_kept (z3_ BK240.out) hkp (fun hs_=>(fun e_=>(Kd.R_ne HO_241001.out BK240.out (by decide)) e_) hs_)) (hb) ?_;clear HO_241001 BK239 BK240 HB;intro HO_241001 BK239 BK240 HB;(try clear hb);(try clear hkp);(try clear hy0);have ⟨hcz24_0,hcz24_1,hfz24_0,hfz24_1⟩:=cz2_ BK240.out;have ⟨hcz25_0,hcz25_1,hfz25_0,hfz25_1⟩:=cz2_ BK239.out))
    refine bodyPost_ret (results_cell_row rfl _ _ gb239 24 #[.int .i64 a0,.slice Ao22 x241001_1.length co22] (0,0) _ rfl (z27_ BK239.out) Tryd.underlying24 rfl (by kernel_rfl)) rfl ?_
    exact ⟨_,z10_,z40_ HO_241001.out BK239.out,z5_ HB.out GE239.out GE240.out⟩


theorem eqA77 (d:Nat) (w:World) (x0 y0:Int) (x1 y1:Int) :
  (Op.equalIn (d+2) 77 (.agg #[.int .i64 x0,.int .i64 x1]) (.agg #[.int .i64 y0,.int .i64 y1])).run Tryd.prog w = .ok (x0 == y0 && (x1 == y1)) w:=by
 refine eqA_of Tryd.underlying77 (by kernel_rfl) ?_
 refine eqf_cons (by rfl) (by go_simp;rfl) (by go_simp;rfl) (by go_simp) ?_
 exact eqf_last (by rfl) (by go_simp;rfl) (by go_simp;rfl) (by go_simp)

attribute [local go_sem high] eqA77
/-! ### slices_Equal_impl_Token_impl_Token: function 82 -/
def slices_Equal_impl_Token_impl_Token.l0:Nat→List (S77)→List (S77)→Int→Int→Option (Bool)
 | 0,_,_,_,_=>none
 | k+1,x0,x1,x12,x13=>if x13<x12 then (if 0≤x13 then (if x13<(x0.length:Int) then (if x13<(x1.length:Int) then (if (!(((rd_T77 x0 x13).f0) == ((rd_T77 x1 x13).f0)) || (!(((rd_T77 x0 x13).f1) == ((rd_T77 x1 x13).f1))))=true then (some false) else (slices_Equal_impl_Token_impl_Token.l0 k x0 x1 x12 (wrap64 (x13+1)))) else (none)) else (none)) else (none)) else (some true)
def slices_Equal_impl_Token_impl_Token.f (k:Nat) (l0:List (S77)) (l1:List (S77)):Option (Bool):=if (l0.length:Int)=(l1.length:Int) then (slices_Equal_impl_Token_impl_Token.l0 k l0 l1 (l0.length:Int) 0) else (some false)
theorem slices_Equal_impl_Token_impl_Token.mono_l:∀ k,(∀ y0 y1 y2 y3,LeO (slices_Equal_impl_Token_impl_Token.l0 k y0 y1 y2 y3) (slices_Equal_impl_Token_impl_Token.l0 (k+1) y0 y1 y2 y3))
 | 0=>fun _ _ _ _ r h=>by simp [slices_Equal_impl_Token_impl_Token.l0] at h
 | k+1=>by
  have ih0:=slices_Equal_impl_Token_impl_Token.mono_l k
  ·intro y0 y1 y2 y3
   unfold slices_Equal_impl_Token_impl_Token.l0
   repeat' first
   | (with_reducible exact ih0 _ _ _ _)
   | (with_reducible exact LeO.refl _)
   | (with_reducible exact LeO.none _)
   | (with_reducible refine LeO.ite ?_ ?_)
   | (with_reducible refine LeO.bind ?_ (fun _=>?_))
   | exact ih0 _ _ _ _
   | exact LeO.none _
   | refine LeO.ite ?_ ?_
   | refine LeO.bind ?_ (fun _=>?_)
theorem slices_Equal_impl_Token_impl_Token.mono:∀ a0 a1 k,LeO (slices_Equal_impl_Token_impl_Token.f k a0 a1) (slices_Equal_impl_Token_impl_Token.f (k+1) a0 a1):=by
 intro a0 a1 k
 have ih0:=slices_Equal_impl_Token_impl_Token.mono_l k
 unfold slices_Equal_impl_Token_impl_Token.f
 repeat' first
   | (with_reducible exact ih0 _ _ _ _)
   | (with_reducible exact LeO.refl _)
   | (with_reducible exact LeO.none _)
   | (with_reducible refine LeO.ite ?_ ?_)
   | (with_reducible refine LeO.bind ?_ (fun _=>?_))
   | exact ih0 _ _ _ _
   | exact LeO.none _
   | refine LeO.ite ?_ ?_
   | refine LeO.bind ?_ (fun _=>?_)
set_option maxHeartbeats 8000000 in
set_option maxRecDepth 100000 in
theorem slices_Equal_impl_Token_impl_Token.calls (k:Nat) (A0:Option Addr) (c0:Nat) (l0:List (S77)) (A1:Option Addr) (c1:Nat) (l1:List (S77)) (r:Bool) (w:World) (hr0:Kd.C k77 w A0 l0.length l0) (hc0:l0.length≤c0) (hr1:Kd.C k77 w A1 l1.length l1) (hc1:l1.length≤c1) (h:slices_Equal_impl_Token_impl_Token.f k l0 l1=some r) :
  Calls Tryd.prog 82 #[.slice A0 l0.length c0,.slice A1 l1.length c1] w fun e w'=>e = .returned (.bool r)∧Drawn0 w w':=by
 have hu77:=Tryd.underlying77
 have HR0:=Aside0.mk hr0
 have HC0:=Aside0.mk hc0
 clear hr0 hc0
 have HR1:=Aside0.mk hr1
 have HC1:=Aside0.mk hc1
 clear hr1 hc1
 have H:(if (l0.length:Int)=(l1.length:Int) then (slices_Equal_impl_Token_impl_Token.l0 k l0 l1 (l0.length:Int) 0) else (some false))=some r:=h
 clear h
 by_cases c3:(l0.length:Int)=(l1.length:Int)
 ·rw [if_pos c3] at H
  have c3b0:((l0.length:Int) == (l1.length:Int))=true:=beq_iff_eq.mpr c3
  have c3b1:((l0.length:Int) != (l1.length:Int))=false:=bne_eq_false_iff_eq.mpr c3
  have c3b2:(l0.length == l1.length)=true:=by first | simpa using c3 | (simp at c3 ⊢;omega)
  clear c3
  have H':=Aside0.mk H
  clear H
  go_enter Tryd.func82,Tryd.ntmps82
  go_wp2
  repeat (go_quiet (fail);try go_wp2)
  go_loopg [13] k (fun kq v13 w'=>∃ (x13_1:Int),v13 = .int .i64 x13_1∧Aside0 (slices_Equal_impl_Token_impl_Token.l0 kq l0 l1 (l0.length:Int) x13_1=some r)∧Aside0 (kq≤k)∧Drawn0 w w')
  case atStart=>exact ⟨(0),(z2_),H',⟨Nat.le_refl _⟩,z6_⟩
  case round =>
   clear H'
   try clear c1
   try clear p2
   try clear c3
   try clear c3b0
   try clear c3b1
   try clear c3b2
   obtain ⟨x13_1,rfl,HA,HK1,⟨m1,rfl⟩⟩:=hrel
   cases gk with
   | zero=>exact absurd HA.out (by simp [slices_Equal_impl_Token_impl_Token.l0])
   | succ k1 =>
    have H:=HA.out
    clear HA
    simp only [slices_Equal_impl_Token_impl_Token.l0] at H
    by_cases c4:x13_1<(l0.length:Int)
    ·rw [if_pos c4] at H
     have c4b0:decide (x13_1<(l0.length:Int))=true:=decide_eq_true c4
     clear c4
     by_cases c5:0≤x13_1
     ·rw [if_pos c5] at H
      have c5b0:decide (0≤x13_1)=true:=decide_eq_true c5
      clear c5
      by_cases c6:x13_1<(l0.length:Int)
      ·rw [if_pos c6] at H
       have c6b0:decide (x13_1<(l0.length:Int))=true:=decide_eq_true c6
       clear c6
       by_cases c7:x13_1<(l1.length:Int)
       ·rw [if_pos c7] at H
        have c7b0:decide (x13_1<(l1.length:Int))=true:=decide_eq_true c7
        clear c7
        by_cases c8:(!(((rd_T77 l0 x13_1).f0) == ((rd_T77 l1 x13_1).f0)) || (!(((rd_T77 l0 x13_1).f1) == ((rd_T77 l1 x13_1).f1))))=true
        ·rw [if_pos c8] at H
         have c8b0:(!(((rd_T77 l0 x13_1).f0) == ((rd_T77 l1 x13_1).f0)) || (!(((rd_T77 l0 x13_1).f1) == ((rd_T77 l1 x13_1).f1))))=true:=c8
         clear c8
         obtain rfl:=Option.some.inj H
         have p355:0≤(x13_1:Int):=of_decide_eq_true (z0_)
         have q355:x13_1<(l0.length:Int):=of_decide_eq_true (z0_)
         obtain ⟨ad355,e355,hx355_0,hx355_1⟩:=at_T77 HR0.out x13_1 p355 q355
         cases e355
         replace p355:=eq_true p355
         replace q355:=eq_true q355
         have p356:0≤(x13_1:Int):=of_decide_eq_true (z0_)
         have q356:x13_1<(l1.length:Int):=of_decide_eq_true (z0_)
         obtain ⟨ad356,e356,hx356_0,hx356_1⟩:=at_T77 HR1.out x13_1 p356 q356
         cases e356
         replace p356:=eq_true p356
         replace q356:=eq_true q356
         go_wp2
         repeat (go_quiet (fail);try go_wp2)
         go_ret
         exact ⟨z2_,z6_⟩
        ·rw [if_neg c8] at H
         have c8b0:(!(((rd_T77 l0 x13_1).f0) == ((rd_T77 l1 x13_1).f0)) || (!(((rd_T77 l0 x13_1).f1) == ((rd_T77 l1 x13_1).f1))))=false:=by simpa using c8
         clear c8
         have H':=Aside0.mk H
         clear H
         have p355:0≤(x13_1:Int):=of_decide_eq_true (z0_)
         have q355:x13_1<(l0.length:Int):=of_decide_eq_true (z0_)
         obtain ⟨ad355,e355,hx355_0,hx355_1⟩:=at_T77 HR0.out x13_1 p355 q355
         cases e355
         replace p355:=eq_true p355
         replace q355:=eq_true q355
         have p356:0≤(x13_1:Int):=of_decide_eq_true (z0_)
         have q356:x13_1<(l1.length:Int):=of_decide_eq_true (z0_)
         obtain ⟨ad356,e356,hx356_0,hx356_1⟩:=at_T77 HR1.out x13_1 p356 q356
         cases e356
         replace p356:=eq_true p356
         replace q356:=eq_true q356
         go_wp2
         repeat (go_quiet (fail);try go_wp2)
         go_roundg k1
         case measure=>have:=HK1.out;omega
         case rel=>exact ⟨(wrap64 (x13_1+1)),(z2_),H',⟨by have:=HK1.out;omega⟩,z6_⟩
       ·rw [if_neg c7] at H
        exact absurd H (by simp)
      ·rw [if_neg c6] at H
       exact absurd H (by simp)
     ·rw [if_neg c5] at H
      exact absurd H (by simp)
    ·rw [if_neg c4] at H
     have c4b0:decide (x13_1<(l0.length:Int))=false:=decide_eq_false c4
     clear c4
     obtain rfl:=Option.some.inj H
     go_wp2
     repeat (go_quiet (fail);try go_wp2)
     go_ret
     exact ⟨z2_,z6_⟩
 ·rw [if_neg c3] at H
  have c3b0:((l0.length:Int) == (l1.length:Int))=false:=beq_eq_false_iff_ne.mpr c3
  have c3b1:((l0.length:Int) != (l1.length:Int))=true:=bne_iff_ne.mpr c3
  have c3b2:(l0.length == l1.length)=false:=by first | simpa using c3 | (simp at c3 ⊢;omega)
  obtain rfl:=Option.some.inj H
  go_enter Tryd.func82,Tryd.ntmps82
  go_wp2
  repeat (go_quiet (fail);try go_wp2)
  go_ret
  exact ⟨z2_,z6_⟩


/-! ### impl_RingRight: function 47 -/
def impl_RingRight.f (k:Nat) (a0_0:Int) (l0_1:List (S77)):Option (Bool):=(impl_isNode.f a0_0).bind fun t358=>(if t358=true then (if a0_0=0 then (none) else ((impl_within.f (wrap64 ((l0_1.length:Int) / a0_0)) 1 8).bind fun t359=>(if t359=true then ((impl_ringNew.f k a0_0 (wrap64 ((l0_1.length:Int) / a0_0))).bind fun bt360=>((slices_Equal_impl_Token_impl_Token.f k l0_1 bt360.2).bind fun t364=>(some t364))) else (some false)))) else (some false))
theorem impl_RingRight.mono:∀ a0 a1 k,LeO (impl_RingRight.f k a0 a1) (impl_RingRight.f (k+1) a0 a1):=by
 intro a0 a1 k
 unfold impl_RingRight.f
 repeat' first
   | (with_reducible exact impl_ringNew.mono _ _ _)
   | (with_reducible exact slices_Equal_impl_Token_impl_Token.mono _ _ _)
   | (with_reducible exact LeO.refl _)
   | (with_reducible exact LeO.none _)
   | (with_reducible refine LeO.ite ?_ ?_)
   | (with_reducible refine LeO.bind ?_ (fun _=>?_))
   | exact impl_ringNew.mono _ _ _
   | exact slices_Equal_impl_Token_impl_Token.mono _ _ _
   | exact LeO.none _
   | refine LeO.ite ?_ ?_
   | refine LeO.bind ?_ (fun _=>?_)
def impl_RingRight.T4:Bool × List (List Nat × List Nat):=(true,[([],[]),([0],[0]),([1,1],[1]),([2],[2]),([3,2],[2,3]),([2],[2]),([5,2],[2,5]),([2],[2]),([6,7,2,2],[2,6,7]),([8,2],[2,8]),([4,9,8,2],[2,4,9]),([2,10],[2,10]),([11,10,0,1,2,3,4,5,6,7,8,9,10,11],[11])])
def impl_RingRight.B4:List Nat:=[0,1,3,7,15,7,39,7,231,487,1023,2047,4095]
theorem impl_RingRight.tab4:rtab .any (opsOf Tryd.f47 4)=impl_RingRight.T4:=by kernel_rfl
theorem impl_RingRight.bits4:waitsOk impl_RingRight.T4.2 impl_RingRight.B4=true:=by kernel_rfl
abbrev impl_RingRight.q0:Array Bool:=#[O,O,O,O,O,O,O,O,O,O,O,O,O]
abbrev impl_RingRight.q1:Array Bool:=#[I,O,O,O,O,O,O,O,O,O,O,O,O]
abbrev impl_RingRight.q2:Array Bool:=#[I,I,O,O,O,O,O,O,O,O,O,O,O]
abbrev impl_RingRight.q3:Array Bool:=#[I,I,I,O,O,O,O,O,O,O,O,O,O]
abbrev impl_RingRight.q4:Array Bool:=#[I,I,I,I,O,O,O,O,O,O,O,O,O]
abbrev impl_RingRight.q5:Array Bool:=#[I,I,I,I,I,I,I,I,O,O,O,O,O]
abbrev impl_RingRight.q6:Array Bool:=#[I,I,I,I,I,I,I,I,I,O,O,O,O]
abbrev impl_RingRight.q7:Array Bool:=#[I,I,I,I,I,I,I,I,I,I,O,O,O]
abbrev impl_RingRight.q8:Array Bool:=#[I,I,I,I,I,I,I,I,I,I,I,O,O]
abbrev impl_RingRight.q9:Array Bool:=#[I,I,I,I,I,I,I,I,I,I,I,I,O]
abbrev impl_RingRight.q10:Array Bool:=#[I,I,I,I,I,I,I,I,I,I,I,I,I]
set_option maxHeartbeats 8000000 in
set_option maxRecDepth 100000 in
theorem impl_RingRight.calls (k:Nat) (a0_0:Int) (A0_1:Option Addr) (c0_1:Nat) (l0_1:List (S77)) (r:Bool) (w:World) (hr0_1:Kd.C k77 w A0_1 l0_1.length l0_1) (hc0_1:l0_1.length≤c0_1) (h:impl_RingRight.f k a0_0 l0_1=some r) :
  Calls Tryd.prog 47 #[.agg #[.int .i64 a0_0,.slice A0_1 l0_1.length c0_1]] w fun e w'=>e = .returned (.bool r)∧Below w.heap.size w w':=by
 have hu24:=Tryd.underlying24
 have hfd24:∀ (a:Int) (v:Value) (w:World),(Instr.field 24 (.agg #[.int .i64 a,v]) 1).run Tryd.prog w = .ok v w:=fun _ _ _=>by kernel_rfl
 have HR0_1:=Aside0.mk hr0_1
 have HC0_1:=Aside0.mk hc0_1
 clear hr0_1 hc0_1
 have HB:=Aside0.mk (Below.refl w.heap.size w)
 have H:((impl_isNode.f a0_0).bind fun t358=>(if t358=true then (if a0_0=0 then (none) else ((impl_within.f (wrap64 ((l0_1.length:Int) / a0_0)) 1 8).bind fun t359=>(if t359=true then ((impl_ringNew.f k a0_0 (wrap64 ((l0_1.length:Int) / a0_0))).bind fun bt360=>((slices_Equal_impl_Token_impl_Token.f k l0_1 bt360.2).bind fun t364=>(some t364))) else (some false)))) else (some false)))=some r:=h
 clear h
 replace H:=Option.bind_eq_some_iff.mp H
 obtain ⟨t358,A20,H⟩:=H
 replace H:(if t358=true then (if a0_0=0 then (none) else ((impl_within.f (wrap64 ((l0_1.length:Int) / a0_0)) 1 8).bind fun t359=>(if t359=true then ((impl_ringNew.f k a0_0 (wrap64 ((l0_1.length:Int) / a0_0))).bind fun bt360=>((slices_Equal_impl_Token_impl_Token.f k l0_1 bt360.2).bind fun t364=>(some t364))) else (some false)))) else (some false))=some r:=H
 have A2:=Aside0.mk A20
 clear A20
 by_cases c3:t358=true
 ·subst c3
  have H1:(if a0_0=0 then (none) else ((impl_within.f (wrap64 ((l0_1.length:Int) / a0_0)) 1 8).bind fun t359=>(if t359=true then ((impl_ringNew.f k a0_0 (wrap64 ((l0_1.length:Int) / a0_0))).bind fun bt360=>((slices_Equal_impl_Token_impl_Token.f k l0_1 bt360.2).bind fun t364=>(some t364))) else (some false))))=some r:=by rw [if_pos rfl] at H;exact H
  clear H
  have H:=H1
  clear H1
  by_cases c4:a0_0=0
  ·rw [if_pos c4] at H
   exact absurd H (by simp)
  ·rw [if_neg c4] at H
   have c4b0:(a0_0 == 0)=false:=beq_eq_false_iff_ne.mpr c4
   have c4b1:(a0_0 != 0)=true:=bne_iff_ne.mpr c4
   replace H:=Option.bind_eq_some_iff.mp H
   obtain ⟨t359,A50,H⟩:=H
   replace H:(if t359=true then ((impl_ringNew.f k a0_0 (wrap64 ((l0_1.length:Int) / a0_0))).bind fun bt360=>((slices_Equal_impl_Token_impl_Token.f k l0_1 bt360.2).bind fun t364=>(some t364))) else (some false))=some r:=H
   have A5:=Aside0.mk A50
   clear A50
   by_cases c6:t359=true
   ·subst c6
    have H1:((impl_ringNew.f k a0_0 (wrap64 ((l0_1.length:Int) / a0_0))).bind fun bt360=>((slices_Equal_impl_Token_impl_Token.f k l0_1 bt360.2).bind fun t364=>(some t364)))=some r:=by rw [if_pos rfl] at H;exact H
    clear H
    have H:=H1
    clear H1
    replace H:=Option.bind_eq_some_iff.mp H
    obtain ⟨⟨t360,t361⟩,A70,H⟩:=H
    replace H:((slices_Equal_impl_Token_impl_Token.f k l0_1 t361).bind fun t364=>(some t364))=some r:=H
    have A7:=Aside0.mk A70
    clear A70
    replace H:=Option.bind_eq_some_iff.mp H
    obtain ⟨t364,A80,H⟩:=H
    replace H:(some t364)=some r:=H
    have A8:=Aside0.mk A80
    clear A80
    obtain rfl:=Option.some.inj H
    go_enter Tryd.func47,Tryd.ntmps47
    try go_wp2_with (first | ((with_reducible refine gd_ 1 ?_);refine be_ 1 #[.int .i64 a0_0,.slice A0_1 l0_1.length c0_1] 24 ?_;intro gb357 hg w9 hbox hb;refine as4_ (below_step (z4_ HB.out) hb) (hbox) ((z8_ HB.out:w.heap.size≤gb357)) ((z8_ HB.out:w.heap.size≤gb357)) ?_;clear HB;intro HB BK357 GW357 GE357;clear hb hbox hg;have ⟨hcz10_0,hcz10_1,hfz10_0,hfz10_1⟩:=cz2_ BK357.out) | ((with_reducible refine gc_ 41 ?_);refine gl_ (some 6) Tryd.func41 #[.int .i64 a0_0] ?_;(with_reducible refine (impl_isNode.calls a0_0 true _ A2.out).mono ?_);rintro e w' ⟨rfl,⟨nd,rfl⟩⟩;refine ⟨_,rfl,?_⟩))
    (try (rw [drewN_self w9];generalize hq_:World.drewN w9 _=w9;have n0_:Aside0 (w9.heap[gb357]? = some (.cells #[.int .i64 a0_0,.slice A0_1 l0_1.length c0_1] 24 (0,0))):=⟨z21_ BK357.out⟩;have n1_:Aside0 (Below w.heap.size w w9):=⟨by rw [← hq_];exact (by repeat (first | (with_reducible first | exact HB.out | apply below_alloc | apply pw_below_drewN | apply below_drew1 | refine below_set ?_ GE357.out) | exact HB.out))⟩;clear BK357 HB hq_;have BK357:=n0_;have HB:=n1_;clear n0_ n1_))
    refine as2_ (blk_drew BK357.out) (below_drew1 HB.out) ?_
    clear BK357 HB
    intro BK357 HB
    refine start_ (n:=13) (S:=fun w'=>w'.cell? ⟨gb357,0,none⟩=some (.int .i64 a0_0)∧w'.cell? ⟨gb357,1,none⟩=some (.slice A0_1 l0_1.length c0_1)) (ds:=[]) impl_RingRight.q0 (by kernel_rfl) rfl rfl (cc2_ BK357.out) (fun hHeld=>?_);refine with_tabW impl_RingRight.tab4 impl_RingRight.bits4 (fun HT_ HW_=>?_)
    generalize w9.drew=w11 at BK357 HB hHeld ⊢
    refine pu_ 0 14 impl_RingRight.q1 HT_.out ?_
    refine o1_ 1 15 impl_RingRight.q2 HT_.out (fun K hK=>?_)
    refine gs_ Tryd.func42 #[.int .i64 (wrap64 ((l0_1.length:Int) / a0_0)),.int .i64 1,.int .i64 8] ?_
    with_reducible refine (impl_within.calls (wrap64 ((l0_1.length:Int) / a0_0)) 1 8 true _ A5.out).mono ?_
    rintro e w' ⟨rfl,⟨nd,rfl⟩⟩
    refine ⟨_,rfl,?_⟩
    refine hK.out _ _ (cc2_ BK357.out) (fun hHeld=>?_)
    clear hK K
    refine nm_ 15 ?_
    refine pu_ 2 16 impl_RingRight.q3 HT_.out ?_
    refine pu_ 3 17 impl_RingRight.q4 HT_.out ?_
    refine pu_ 5 19 #[I,I,I,I,O,I,O,O,O,O,O,O,O] HT_.out ?_
    refine pu_ 7 21 #[I,I,I,I,O,I,O,I,O,O,O,O,O] HT_.out ?_
    refine tk2_ 4 18 #[I,I,I,I,I,I,O,I,O,O,O,O,O] HT_.out HW_.out hHeld ?_
    refine tk2_ 6 20 impl_RingRight.q5 HT_.out HW_.out hHeld ?_
    refine o1_ 8 22 impl_RingRight.q6 HT_.out (fun K hK=>?_)
    refine gs_ Tryd.func43 #[.int .i64 a0_0,.int .i64 (wrap64 ((l0_1.length:Int) / a0_0))] ?_
    with_reducible refine (impl_ringNew.calls k a0_0 (wrap64 ((l0_1.length:Int) / a0_0)) t360 t361 _ A7.out).mono ?_
    rintro e w12 ⟨v362,rfl,ho0,hb⟩
    refine ⟨_,rfl,?_⟩
    refine as3_ (Kd.R_lower ho0 (below_size (z7_ HB.out GE357.out))) (blkB_ BK357.out hb) (below_step (z7_ HB.out GE357.out) hb) ?_
    clear BK357 HB
    intro HO363 BK357 HB
    (try clear hb)
    (try clear ho0)
    obtain ⟨Ao13,co13,eo13⟩:=Kd.R_slice HO363.out
    (first | subst eo13 | (injection eo13 with f1_ f2_ f3_;have f4_:=f1_.symm;have f5_:=f3_.symm;clear f1_ f2_ f3_;subst f4_;subst f5_))
    refine hK.out _ _ (cc2_ BK357.out) (fun hHeld=>?_)
    clear hK K
    refine nm_ 22 ?_
    refine pu_ 9 23 impl_RingRight.q7 HT_.out ?_
    refine o1_ 10 24 impl_RingRight.q8 HT_.out (fun K hK=>?_)
    refine gs_ Tryd.func82 #[.slice A0_1 l0_1.length c0_1,.slice Ao13 t361.length co13] ?_
    with_reducible refine (slices_Equal_impl_Token_impl_Token.calls k _ _ l0_1 _ _ t361 t364 _ ?s1 ?s2 ?s3 ?s4 A8.out).mono ?_
    (case s1=>repeat (first | exact (Kd.C_below HR0_1.out HB.out) | (with_reducible refine Kd.C_alloc ?_ _) | (with_reducible refine Kd.C_drewN ?_ _) | (with_reducible refine Kd.C_drew ?_)))
    (case s2=>exact HC0_1.out)
    (case s3=>repeat (first | exact (Kd.R_reads' HO363.out).2.2 | (with_reducible refine Kd.C_alloc ?_ _) | (with_reducible refine Kd.C_drewN ?_ _) | (with_reducible refine Kd.C_drew ?_)))
    (case s4=>exact (Kd.R_reads' HO363.out).2.1)
    rintro e w' ⟨rfl,⟨nd,rfl⟩⟩
    refine ⟨_,rfl,?_⟩
    refine hK.out _ _ (cc2_ BK357.out) (fun hHeld=>?_)
    clear hK K
    refine nm_ 24 ?_
    refine pu_ 11 25 impl_RingRight.q9 HT_.out ?_
    refine pu_ 12 2 impl_RingRight.q10 HT_.out ?_
    refine done_ (done_of HT_.out (by kernel_rfl)) ?_
    try go_wp2
    go_ret
    exact ⟨z10_,z7_ HB.out GE357.out⟩
   ·replace c6:=Bool.eq_false_iff.mpr c6
    subst c6
    have H1:(some false)=some r:=by rw [if_neg (show ¬ (false=true) by decide)] at H;exact H
    clear H
    have H:=H1
    clear H1
    obtain rfl:=Option.some.inj H
    go_enter Tryd.func47,Tryd.ntmps47
    try go_wp2_with (first | ((with_reducible refine gd_ 1 ?_);refine be_ 1 #[.int .i64 a0_0,.slice A0_1 l0_1.length c0_1] 24 ?_;intro gb357 hg w14 hbox hb;refine as4_ (below_step (z4_ HB.out) hb) (hbox) ((z8_ HB.out:w.heap.size≤gb357)) ((z8_ HB.out:w.heap.size≤gb357)) ?_;clear HB;intro HB BK357 GW357 GE357;clear hb hbox hg;have ⟨hcz15_0,hcz15_1,hfz15_0,hfz15_1⟩:=cz2_ BK357.out) | ((with_reducible refine gc_ 41 ?_);refine gl_ (some 6) Tryd.func41 #[.int .i64 a0_0] ?_;(with_reducible refine (impl_isNode.calls a0_0 true _ A2.out).mono ?_);rintro e w' ⟨rfl,⟨nd,rfl⟩⟩;refine ⟨_,rfl,?_⟩))
    (try (rw [drewN_self w14];generalize hq_:World.drewN w14 _=w14;have n0_:Aside0 (w14.heap[gb357]? = some (.cells #[.int .i64 a0_0,.slice A0_1 l0_1.length c0_1] 24 (0,0))):=⟨z21_ BK357.out⟩;have n1_:Aside0 (Below w.heap.size w w14):=⟨by rw [← hq_];exact (by repeat (first | (with_reducible first | exact HB.out | apply below_alloc | apply pw_below_drewN | apply below_drew1 | refine below_set ?_ GE357.out) | exact HB.out))⟩;clear BK357 HB hq_;have BK357:=n0_;have HB:=n1_;clear n0_ n1_))
    refine as2_ (blk_drew BK357.out) (below_drew1 HB.out) ?_
    clear BK357 HB
    intro BK357 HB
    refine start_ (n:=13) (S:=fun w'=>True) (ds:=[]) impl_RingRight.q0 (by kernel_rfl) rfl rfl trivial (fun hHeld=>?_);refine with_tabW impl_RingRight.tab4 impl_RingRight.bits4 (fun HT_ HW_=>?_)
    generalize w14.drew=w16 at BK357 HB hHeld ⊢
    refine pu_ 0 14 impl_RingRight.q1 HT_.out ?_
    refine o1_ 1 15 impl_RingRight.q2 HT_.out (fun K hK=>?_)
    refine gs_ Tryd.func42 #[.int .i64 (wrap64 ((l0_1.length:Int) / a0_0)),.int .i64 1,.int .i64 8] ?_
    with_reducible refine (impl_within.calls (wrap64 ((l0_1.length:Int) / a0_0)) 1 8 false _ A5.out).mono ?_
    rintro e w' ⟨rfl,⟨nd,rfl⟩⟩
    refine ⟨_,rfl,?_⟩
    refine hK.out _ _ trivial (fun hHeld=>?_)
    clear hK K
    refine nm_ 15 ?_
    refine pu_ 2 16 impl_RingRight.q3 HT_.out ?_
    refine pn_ 3 17 impl_RingRight.q4 HT_.out ?_
    refine pn_ 4 18 #[I,I,I,I,I,O,O,O,O,O,O,O,O] HT_.out ?_
    refine pn_ 5 19 #[I,I,I,I,I,I,O,O,O,O,O,O,O] HT_.out ?_
    refine pn_ 6 20 #[I,I,I,I,I,I,I,O,O,O,O,O,O] HT_.out ?_
    refine pn_ 7 21 impl_RingRight.q5 HT_.out ?_
    refine pn_ 8 22 impl_RingRight.q6 HT_.out ?_
    refine pn_ 9 23 impl_RingRight.q7 HT_.out ?_
    refine pn_ 10 24 impl_RingRight.q8 HT_.out ?_
    refine pu_ 11 25 impl_RingRight.q9 HT_.out ?_
    refine pu_ 12 2 impl_RingRight.q10 HT_.out ?_
    refine done_ (done_of HT_.out (by kernel_rfl)) ?_
    try go_wp2
    go_ret
    exact ⟨z10_,z7_ HB.out GE357.out⟩
 ·replace c3:=Bool.eq_false_iff.mpr c3
  subst c3
  have H1:(some false)=some r:=by rw [if_neg (show ¬ (false=true) by decide)] at H;exact H
  clear H
  have H:=H1
  clear H1
  obtain rfl:=Option.some.inj H
  go_enter Tryd.func47,Tryd.ntmps47
  go_wp2_with (first | ((with_reducible refine gd_ 1 ?_);refine be_ 1 #[.int .i64 a0_0,.slice A0_1 l0_1.length c0_1] 24 ?_;intro gb357 hg w17 hbox hb;refine as4_ (below_step (z4_ HB.out) hb) (hbox) ((z8_ HB.out:w.heap.size≤gb357)) ((z8_ HB.out:w.heap.size≤gb357)) ?_;clear HB;intro HB BK357 GW357 GE357;clear hb hbox hg;have ⟨hcz18_0,hcz18_1,hfz18_0,hfz18_1⟩:=cz2_ BK357.out) | ((with_reducible refine gc_ 41 ?_);refine gl_ (some 6) Tryd.func41 #[.int .i64 a0_0] ?_;(with_reducible refine (impl_isNode.calls a0_0 false _ A2.out).mono ?_);rintro e w' ⟨rfl,⟨nd,rfl⟩⟩;refine ⟨_,rfl,?_⟩))
  go_ret
  exact ⟨z10_,z7_ HB.out GE357.out⟩


/-! ### impl_isLong_1: function 111 -/
def impl_isLong_1.f (a0:ByteArray):Option (Bool):=some (decide ((a0.size:Int)>8000))
set_option maxHeartbeats 8000000 in
set_option maxRecDepth 100000 in
theorem impl_isLong_1.calls (a0:ByteArray) (r:Bool) (w:World) (h:impl_isLong_1.f a0=some r) :
  Calls Tryd.prog 111 #[.string a0] w fun e w'=>e = .returned (.bool r)∧Drawn0 w w':=by
 have H:(some (decide ((a0.size:Int)>8000)))=some r:=h
 clear h
 obtain rfl:=Option.some.inj H
 go_enter Tryd.func111,Tryd.ntmps111
 go_wp2
 go_ret
 exact ⟨z2_,z6_⟩


/-! ### slices_IndexFunc_string_string_impl_isLong_1: function 132 -/
def slices_IndexFunc_string_string_impl_isLong_1.l0:Nat→List ByteArray→Int→Int→Option (Int)
 | 0,_,_,_=>none
 | k+1,x0,x7,x8=>if x8<x7 then (if 0≤x8 then (if x8<(x0.length:Int) then ((impl_isLong_1.f (rdOf ByteArray.empty x0 x8)).bind fun t453=>(if t453=true then (some x8) else (slices_IndexFunc_string_string_impl_isLong_1.l0 k x0 x7 (wrap64 (x8+1))))) else (none)) else (none)) else (some (-1))
def slices_IndexFunc_string_string_impl_isLong_1.f (k:Nat) (l0:List ByteArray)  : Option (Int):=slices_IndexFunc_string_string_impl_isLong_1.l0 k l0 (l0.length:Int) 0
theorem slices_IndexFunc_string_string_impl_isLong_1.mono_l:∀ k,(∀ y0 y1 y2,LeO (slices_IndexFunc_string_string_impl_isLong_1.l0 k y0 y1 y2) (slices_IndexFunc_string_string_impl_isLong_1.l0 (k+1) y0 y1 y2))
 | 0=>fun _ _ _ r h=>by simp [slices_IndexFunc_string_string_impl_isLong_1.l0] at h
 | k+1=>by
  have ih0:=slices_IndexFunc_string_string_impl_isLong_1.mono_l k
  ·intro y0 y1 y2
   unfold slices_IndexFunc_string_string_impl_isLong_1.l0
   repeat' first
   | (with_reducible exact ih0 _ _ _)
   | (with_reducible exact LeO.refl _)
   | (with_reducible exact LeO.none _)
   | (with_reducible refine LeO.ite ?_ ?_)
   | (with_reducible refine LeO.bind ?_ (fun _=>?_))
   | exact ih0 _ _ _
   | exact LeO.none _
   | refine LeO.ite ?_ ?_
   | refine LeO.bind ?_ (fun _=>?_)
theorem slices_IndexFunc_string_string_impl_isLong_1.mono:∀ a0 k,LeO (slices_IndexFunc_string_string_impl_isLong_1.f k a0) (slices_IndexFunc_string_string_impl_isLong_1.f (k+1) a0):=by
 intro a0 k
 have ih0:=slices_IndexFunc_string_string_impl_isLong_1.mono_l k
 unfold slices_IndexFunc_string_string_impl_isLong_1.f
 repeat' first
   | (with_reducible exact ih0 _ _ _)
   | (with_reducible exact LeO.refl _)
   | (with_reducible exact LeO.none _)
   | (with_reducible refine LeO.ite ?_ ?_)
   | (with_reducible refine LeO.bind ?_ (fun _=>?_))
   | exact ih0 _ _ _
   | exact LeO.none _
   | refine LeO.ite ?_ ?_
   | refine LeO.bind ?_ (fun _=>?_)
set_option maxHeartbeats 8000000 in
set_option maxRecDepth 100000 in
theorem slices_IndexFunc_string_string_impl_isLong_1.calls (k:Nat) (A0:Option Addr) (c0:Nat) (l0:List ByteArray)  (r:Int) (w:World) (hr0:Kd.C Kd.string w A0 l0.length l0) (hc0:l0.length≤c0) (h:slices_IndexFunc_string_string_impl_isLong_1.f k l0=some r) :
  Calls Tryd.prog 132 #[.slice A0 l0.length c0,.func (.func 111) #[] #[]] w fun e w'=>e = .returned (.int .i64 r)∧Drawn0 w w':=by
 have HR0:=Aside0.mk hr0
 have HC0:=Aside0.mk hc0
 clear hr0 hc0
 have H:(slices_IndexFunc_string_string_impl_isLong_1.l0 k l0 (l0.length:Int) 0)=some r:=h
 clear h
 have H':=Aside0.mk H
 clear H
 go_enter Tryd.func132,Tryd.ntmps132
 go_wp2
 go_loopg [8] k (fun kq v8 w'=>∃ (x8_1:Int),v8 = .int .i64 x8_1∧Aside0 (slices_IndexFunc_string_string_impl_isLong_1.l0 kq l0 (l0.length:Int) x8_1=some r)∧Aside0 (kq≤k)∧Drawn0 w w')
 case atStart=>exact ⟨(0),(z2_),H',⟨Nat.le_refl _⟩,z6_⟩
 case round =>
  clear H'
  try clear p2
  obtain ⟨x8_1,rfl,HA,HK1,⟨m1,rfl⟩⟩:=hrel
  cases gk with
  | zero=>exact absurd HA.out (by simp [slices_IndexFunc_string_string_impl_isLong_1.l0])
  | succ k1 =>
   have H:=HA.out
   clear HA
   simp only [slices_IndexFunc_string_string_impl_isLong_1.l0] at H
   by_cases c3:x8_1<(l0.length:Int)
   ·rw [if_pos c3] at H
    have c3b0:decide (x8_1<(l0.length:Int))=true:=decide_eq_true c3
    clear c3
    by_cases c4:0≤x8_1
    ·rw [if_pos c4] at H
     have c4b0:decide (0≤x8_1)=true:=decide_eq_true c4
     clear c4
     by_cases c5:x8_1<(l0.length:Int)
     ·rw [if_pos c5] at H
      have c5b0:decide (x8_1<(l0.length:Int))=true:=decide_eq_true c5
      clear c5
      replace H:=Option.bind_eq_some_iff.mp H
      obtain ⟨t453,A60,H⟩:=H
      replace H:(if t453=true then (some x8_1) else (slices_IndexFunc_string_string_impl_isLong_1.l0 k1 l0 (l0.length:Int) (wrap64 (x8_1+1))))=some r:=H
      have A6:=Aside0.mk A60
      clear A60
      by_cases c7:t453=true
      ·subst c7
       have H1:(some x8_1)=some r:=by rw [if_pos rfl] at H;exact H
       clear H
       have H:=H1
       clear H1
       obtain rfl:=Option.some.inj H
       have p452:0≤(x8_1:Int):=of_decide_eq_true (z0_)
       have q452:x8_1<(l0.length:Int):=of_decide_eq_true (z0_)
       obtain ⟨ad452,e452,hx452_0⟩:=Kd.at_string HR0.out x8_1 p452 q452
       cases e452
       replace p452:=eq_true p452
       replace q452:=eq_true q452
       go_wp2_with (first | (go_at_call 111;(with_reducible refine (impl_isLong_1.calls (rdOf ByteArray.empty l0 x8_1) true _ A6.out).mono ?_);rintro e w' ⟨rfl,⟨nd,rfl⟩⟩))
       go_ret
       exact ⟨z2_,z6_⟩
      ·replace c7:=Bool.eq_false_iff.mpr c7
       subst c7
       have H1:(slices_IndexFunc_string_string_impl_isLong_1.l0 k1 l0 (l0.length:Int) (wrap64 (x8_1+1)))=some r:=by rw [if_neg (show ¬ (false=true) by decide)] at H;exact H
       clear H
       have H:=H1
       clear H1
       have H':=Aside0.mk H
       clear H
       have p452:0≤(x8_1:Int):=of_decide_eq_true (z0_)
       have q452:x8_1<(l0.length:Int):=of_decide_eq_true (z0_)
       obtain ⟨ad452,e452,hx452_0⟩:=Kd.at_string HR0.out x8_1 p452 q452
       cases e452
       replace p452:=eq_true p452
       replace q452:=eq_true q452
       go_wp2_with (first | (go_at_call 111;(with_reducible refine (impl_isLong_1.calls (rdOf ByteArray.empty l0 x8_1) false _ A6.out).mono ?_);rintro e w' ⟨rfl,⟨nd,rfl⟩⟩))
       go_roundg k1
       case measure=>have:=HK1.out;omega
       case rel=>exact ⟨(wrap64 (x8_1+1)),(z2_),H',⟨by have:=HK1.out;omega⟩,z6_⟩
     ·rw [if_neg c5] at H
      exact absurd H (by simp)
    ·rw [if_neg c4] at H
     exact absurd H (by simp)
   ·rw [if_neg c3] at H
    have c3b0:decide (x8_1<(l0.length:Int))=false:=decide_eq_false c3
    clear c3
    obtain rfl:=Option.some.inj H
    go_wp2
    go_ret
    exact ⟨z2_,z6_⟩


/-! ### slices_ContainsFunc_string_string_impl_isLong_1: function 110 -/
def slices_ContainsFunc_string_string_impl_isLong_1.f (k:Nat) (l0:List ByteArray)  : Option (Bool):=(slices_IndexFunc_string_string_impl_isLong_1.f k l0).bind fun t454=>(some (decide (t454≥0)))
theorem slices_ContainsFunc_string_string_impl_isLong_1.mono:∀ a0 k,LeO (slices_ContainsFunc_string_string_impl_isLong_1.f k a0) (slices_ContainsFunc_string_string_impl_isLong_1.f (k+1) a0):=by
 intro a0 k
 unfold slices_ContainsFunc_string_string_impl_isLong_1.f
 repeat' first
   | (with_reducible exact slices_IndexFunc_string_string_impl_isLong_1.mono _ _)
   | (with_reducible exact LeO.refl _)
   | (with_reducible exact LeO.none _)
   | (with_reducible refine LeO.ite ?_ ?_)
   | (with_reducible refine LeO.bind ?_ (fun _=>?_))
   | exact slices_IndexFunc_string_string_impl_isLong_1.mono _ _
   | exact LeO.none _
   | refine LeO.ite ?_ ?_
   | refine LeO.bind ?_ (fun _=>?_)
set_option maxHeartbeats 8000000 in
set_option maxRecDepth 100000 in
theorem slices_ContainsFunc_string_string_impl_isLong_1.calls (k:Nat) (A0:Option Addr) (c0:Nat) (l0:List ByteArray)  (r:Bool) (w:World) (hr0:Kd.C Kd.string w A0 l0.length l0) (hc0:l0.length≤c0) (h:slices_ContainsFunc_string_string_impl_isLong_1.f k l0=some r) :
  Calls Tryd.prog 110 #[.slice A0 l0.length c0,.func (.func 111) #[] #[]] w fun e w'=>e = .returned (.bool r)∧Drawn0 w w':=by
 have HR0:=Aside0.mk hr0
 have HC0:=Aside0.mk hc0
 clear hr0 hc0
 have H:((slices_IndexFunc_string_string_impl_isLong_1.f k l0).bind fun t454=>(some (decide (t454≥0))))=some r:=h
 clear h
 replace H:=Option.bind_eq_some_iff.mp H
 obtain ⟨t454,A30,H⟩:=H
 replace H:(some (decide (t454≥0)))=some r:=H
 have A3:=Aside0.mk A30
 clear A30
 obtain rfl:=Option.some.inj H
 go_enter Tryd.func110,Tryd.ntmps110
 go_wp2_with (first | ((with_reducible refine gc_ 132 ?_);refine gl_ (some 7) Tryd.func132 #[.slice A0 l0.length c0,.func (.func 111) #[] #[]] ?_;(with_reducible refine (slices_IndexFunc_string_string_impl_isLong_1.calls k _ _ l0  t454 _ ?s1 ?s2 A3.out).mono ?_);(case s1=>repeat (first | exact HR0.out | (with_reducible refine Kd.C_alloc ?_ _) | (with_reducible refine Kd.C_drewN ?_ _) | (with_reducible refine Kd.C_drew ?_)));(case s2=>exact HC0.out);rintro e w' ⟨rfl,⟨nd,rfl⟩⟩;refine ⟨_,rfl,?_⟩))
 go_ret
 exact ⟨z2_,z6_⟩


/-! ### impl_isLong: function 83 -/
def impl_isLong.f (k:Nat) (l0:List ByteArray):Option (Bool):=(slices_ContainsFunc_string_string_impl_isLong_1.f k l0).bind fun t455=>(some t455)
theorem impl_isLong.mono:∀ a0 k,LeO (impl_isLong.f k a0) (impl_isLong.f (k+1) a0):=by
 intro a0 k
 unfold impl_isLong.f
 repeat' first
   | (with_reducible exact slices_ContainsFunc_string_string_impl_isLong_1.mono _ _)
   | (with_reducible exact LeO.refl _)
   | (with_reducible exact LeO.none _)
   | (with_reducible refine LeO.ite ?_ ?_)
   | (with_reducible refine LeO.bind ?_ (fun _=>?_))
   | exact slices_ContainsFunc_string_string_impl_isLong_1.mono _ _
   | exact LeO.none _
   | refine LeO.ite ?_ ?_
   | refine LeO.bind ?_ (fun _=>?_)
set_option maxHeartbeats 8000000 in
set_option maxRecDepth 100000 in
theorem impl_isLong.calls (k:Nat) (A0:Option Addr) (c0:Nat) (l0:List ByteArray) (r:Bool) (w:World) (hr0:Kd.C Kd.string w A0 l0.length l0) (hc0:l0.length≤c0) (h:impl_isLong.f k l0=some r) :
  Calls Tryd.prog 83 #[.slice A0 l0.length c0] w fun e w'=>e = .returned (.bool r)∧Drawn0 w w':=by
 have HR0:=Aside0.mk hr0
 have HC0:=Aside0.mk hc0
 clear hr0 hc0
 have H:((slices_ContainsFunc_string_string_impl_isLong_1.f k l0).bind fun t455=>(some t455))=some r:=h
 clear h
 replace H:=Option.bind_eq_some_iff.mp H
 obtain ⟨t455,A20,H⟩:=H
 replace H:(some t455)=some r:=H
 have A2:=Aside0.mk A20
 clear A20
 obtain rfl:=Option.some.inj H
 go_enter Tryd.func83,Tryd.ntmps83
 go_wp2_with (first | ((with_reducible refine gc_ 110 ?_);refine gl_ (some 4) Tryd.func110 #[.slice A0 l0.length c0,.func (.func 111) #[] #[]] ?_;(with_reducible refine (slices_ContainsFunc_string_string_impl_isLong_1.calls k _ _ l0  t455 _ ?s1 ?s2 A2.out).mono ?_);(case s1=>repeat (first | exact HR0.out | (with_reducible refine Kd.C_alloc ?_ _) | (with_reducible refine Kd.C_drewN ?_ _) | (with_reducible refine Kd.C_drew ?_)));(case s2=>exact HC0.out);rintro e w' ⟨rfl,⟨nd,rfl⟩⟩;refine ⟨_,rfl,?_⟩))
 go_ret
 exact ⟨z2_,z6_⟩


/-! ### impl_size: function 112 -/
def impl_size.f (a0:ByteArray):Option (Int):=some (a0.size:Int)
set_option maxHeartbeats 8000000 in
set_option maxRecDepth 100000 in
theorem impl_size.calls (a0:ByteArray) (r:Int) (w:World) (h:impl_size.f a0=some r) :
  Calls Tryd.prog 112 #[.string a0] w fun e w'=>e = .returned (.int .i64 r)∧Drawn0 w w':=by
 have H:(some (a0.size:Int))=some r:=h
 clear h
 obtain rfl:=Option.some.inj H
 go_enter Tryd.func112,Tryd.ntmps112
 go_wp2
 go_ret
 exact ⟨z2_,z6_⟩


/-! ### impl_NameRight: function 84 -/
mutual
def impl_NameRight.j0:Nat→ByteArray→Bool→Option (Bool)
 | 0,_,_=>none
 | k+1,x0,x18=>if x18=true then (some false) else (impl_NameRight.l0 k x0 (x0.size:Int) 0)
def impl_NameRight.l0:Nat→ByteArray→Int→Int→Option (Bool)
 | 0,_,_,_=>none
 | k+1,x0,x20,x21=>if x21<x20 then (if 0≤x21 then (if x21<(x0.size:Int) then (if (bt x0 x21)≥97 then (if (bt x0 x21)≤122 then (impl_NameRight.l0 k x0 x20 (wrap64 (x21+1))) else (if (bt x0 x21)≥48 then (if (bt x0 x21)≤57 then (impl_NameRight.l0 k x0 x20 (wrap64 (x21+1))) else (if ((bt x0 x21)=95) then (impl_NameRight.l0 k x0 x20 (wrap64 (x21+1))) else (some false))) else (if ((bt x0 x21)=95) then (impl_NameRight.l0 k x0 x20 (wrap64 (x21+1))) else (some false)))) else (if (bt x0 x21)≥48 then (if (bt x0 x21)≤57 then (impl_NameRight.l0 k x0 x20 (wrap64 (x21+1))) else (if ((bt x0 x21)=95) then (impl_NameRight.l0 k x0 x20 (wrap64 (x21+1))) else (some false))) else (if ((bt x0 x21)=95) then (impl_NameRight.l0 k x0 x20 (wrap64 (x21+1))) else (some false)))) else (none)) else (none)) else (some true)
end
def impl_NameRight.f (k:Nat) (a0:ByteArray):Option (Bool):=(impl_size.f a0).bind fun t456=>((impl_within.f t456 1 20).bind fun t457=>(if t457=true then (if 0<(a0.size:Int) then (if (bt a0 0)<97 then (impl_NameRight.j0 k a0 true) else (impl_NameRight.j0 k a0 (decide ((bt a0 0)>122)))) else (none)) else (impl_NameRight.j0 k a0 true)))
theorem impl_NameRight.mono_l:∀ k,(∀ y0 y1,LeO (impl_NameRight.j0 k y0 y1) (impl_NameRight.j0 (k+1) y0 y1))∧(∀ y0 y1 y2,LeO (impl_NameRight.l0 k y0 y1 y2) (impl_NameRight.l0 (k+1) y0 y1 y2))
 | 0=>⟨fun _ _ r h=>by simp [impl_NameRight.j0] at h,fun _ _ _ r h=>by simp [impl_NameRight.l0] at h⟩
 | k+1=>by
  obtain ⟨ih0,ih1⟩:=impl_NameRight.mono_l k
  refine ⟨?_,?_⟩
  ·intro y0 y1
   unfold impl_NameRight.j0
   repeat' first
   | (with_reducible exact ih0 _ _)
   | (with_reducible exact ih1 _ _ _)
   | (with_reducible exact LeO.refl _)
   | (with_reducible exact LeO.none _)
   | (with_reducible refine LeO.ite ?_ ?_)
   | (with_reducible refine LeO.bind ?_ (fun _=>?_))
   | exact ih0 _ _
   | exact ih1 _ _ _
   | exact LeO.none _
   | refine LeO.ite ?_ ?_
   | refine LeO.bind ?_ (fun _=>?_)
  ·intro y0 y1 y2
   unfold impl_NameRight.l0
   repeat' first
   | (with_reducible exact ih0 _ _)
   | (with_reducible exact ih1 _ _ _)
   | (with_reducible exact LeO.refl _)
   | (with_reducible exact LeO.none _)
   | (with_reducible refine LeO.ite ?_ ?_)
   | (with_reducible refine LeO.bind ?_ (fun _=>?_))
   | exact ih0 _ _
   | exact ih1 _ _ _
   | exact LeO.none _
   | refine LeO.ite ?_ ?_
   | refine LeO.bind ?_ (fun _=>?_)
theorem impl_NameRight.mono:∀ a0 k,LeO (impl_NameRight.f k a0) (impl_NameRight.f (k+1) a0):=by
 intro a0 k
 obtain ⟨ih0,ih1⟩:=impl_NameRight.mono_l k
 unfold impl_NameRight.f
 repeat' first
   | (with_reducible exact ih0 _ _)
   | (with_reducible exact ih1 _ _ _)
   | (with_reducible exact LeO.refl _)
   | (with_reducible exact LeO.none _)
   | (with_reducible refine LeO.ite ?_ ?_)
   | (with_reducible refine LeO.bind ?_ (fun _=>?_))
   | exact ih0 _ _
   | exact ih1 _ _ _
   | exact LeO.none _
   | refine LeO.ite ?_ ?_
   | refine LeO.bind ?_ (fun _=>?_)
set_option maxHeartbeats 8000000 in
set_option maxRecDepth 100000 in
theorem impl_NameRight.calls (k:Nat) (a0:ByteArray) (r:Bool) (w:World) (h:impl_NameRight.f k a0=some r) :
  Calls Tryd.prog 84 #[.string a0] w fun e w'=>e = .returned (.bool r)∧Drawn0 w w':=by
 have H:((impl_size.f a0).bind fun t456=>((impl_within.f t456 1 20).bind fun t457=>(if t457=true then (if 0<(a0.size:Int) then (if (bt a0 0)<97 then (impl_NameRight.j0 k a0 true) else (impl_NameRight.j0 k a0 (decide ((bt a0 0)>122)))) else (none)) else (impl_NameRight.j0 k a0 true))))=some r:=h
 clear h
 have HC2:=Aside0.mk H
 clear H
 go_enter Tryd.func84,Tryd.ntmps84
 go_upto_region 1 with (fail)
 go_cut [18] (fun v18 wc=>∃ (kq:Nat) (x18_1:Bool),v18 = .bool x18_1∧Aside0 (impl_NameRight.j0 kq a0 x18_1=some r)∧Aside0 (kq≤k)∧Drawn0 w wc)
 case first =>
  have H:=HC2.out
  clear HC2
  replace H:=Option.bind_eq_some_iff.mp H
  obtain ⟨t456,A30,H⟩:=H
  replace H:((impl_within.f t456 1 20).bind fun t457=>(if t457=true then (if 0<(a0.size:Int) then (if (bt a0 0)<97 then (impl_NameRight.j0 k a0 true) else (impl_NameRight.j0 k a0 (decide ((bt a0 0)>122)))) else (none)) else (impl_NameRight.j0 k a0 true)))=some r:=H
  have A3:=Aside0.mk A30
  clear A30
  replace H:=Option.bind_eq_some_iff.mp H
  obtain ⟨t457,A40,H⟩:=H
  replace H:(if t457=true then (if 0<(a0.size:Int) then (if (bt a0 0)<97 then (impl_NameRight.j0 k a0 true) else (impl_NameRight.j0 k a0 (decide ((bt a0 0)>122)))) else (none)) else (impl_NameRight.j0 k a0 true))=some r:=H
  have A4:=Aside0.mk A40
  clear A40
  by_cases c5:t457=true
  ·subst c5
   have H1:(if 0<(a0.size:Int) then (if (bt a0 0)<97 then (impl_NameRight.j0 k a0 true) else (impl_NameRight.j0 k a0 (decide ((bt a0 0)>122)))) else (none))=some r:=by rw [if_pos rfl] at H;exact H
   clear H
   have H:=H1
   clear H1
   by_cases c6:0<(a0.size:Int)
   ·rw [if_pos c6] at H
    have c6b0:decide (0<(a0.size:Int))=true:=decide_eq_true c6
    have c6b1:decide (0<a0.size)=true:=decide_eq_true (by omega)
    clear c6
    (first | rw [c6b0] | (simp only [i64_w,i32_w];rw [c6b0]) | skip)
    by_cases c8:(bt a0 0)<97
    ·rw [if_pos c8] at H
     have c8b0:decide ((bt a0 0)<97)=true:=decide_eq_true c8
     clear c8
     have H':=Aside0.mk H
     clear H
     go_wp2_with (first | ((with_reducible refine gc_ 112 ?_);refine gl_ (some 6) Tryd.func112 #[.string a0] ?_;(with_reducible refine (impl_size.calls a0 t456 _ A3.out).mono ?_);rintro e w' ⟨rfl,⟨nd,rfl⟩⟩;refine ⟨_,rfl,?_⟩) | ((with_reducible refine gc_ 42 ?_);refine gl_ (some 7) Tryd.func42 #[.int .i64 t456,.int .i64 1,.int .i64 20] ?_;(with_reducible refine (impl_within.calls t456 1 20 true _ A4.out).mono ?_);rintro e w' ⟨rfl,⟨nd,rfl⟩⟩;refine ⟨_,rfl,?_⟩;have p7:0≤(0:Int):=(by omega);have q7:0<a0.size:=(z41_);have hx7:∀ h:0<a0.size,((a0[0]'h).toNat:Int)=bt a0 0:=bt_at a0 0;clear p7;have qi7:(0<(a0.size:Int))=True:=eq_true (of_decide_eq_true (z0_));replace q7:=eq_true q7))
     go_meet
     case rel=>exact ⟨_,(true),(z2_),H',⟨by first | omega | exact Nat.le_refl _⟩,z6_⟩
    ·rw [if_neg c8] at H
     have c8b0:decide ((bt a0 0)<97)=false:=decide_eq_false c8
     clear c8
     have H':=Aside0.mk H
     clear H
     go_wp2_with (first | ((with_reducible refine gc_ 112 ?_);refine gl_ (some 6) Tryd.func112 #[.string a0] ?_;(with_reducible refine (impl_size.calls a0 t456 _ A3.out).mono ?_);rintro e w' ⟨rfl,⟨nd,rfl⟩⟩;refine ⟨_,rfl,?_⟩) | ((with_reducible refine gc_ 42 ?_);refine gl_ (some 7) Tryd.func42 #[.int .i64 t456,.int .i64 1,.int .i64 20] ?_;(with_reducible refine (impl_within.calls t456 1 20 true _ A4.out).mono ?_);rintro e w' ⟨rfl,⟨nd,rfl⟩⟩;refine ⟨_,rfl,?_⟩;have p7:0≤(0:Int):=(by omega);have q7:0<a0.size:=(z41_);have hx7:∀ h:0<a0.size,((a0[0]'h).toNat:Int)=bt a0 0:=bt_at a0 0;clear p7;have qi7:(0<(a0.size:Int))=True:=eq_true (of_decide_eq_true (z0_));replace q7:=eq_true q7;have p9:0≤(0:Int):=(by omega);have q9:0<a0.size:=(z41_);have hx9:∀ h:0<a0.size,((a0[0]'h).toNat:Int)=bt a0 0:=bt_at a0 0;clear p9;have qi9:(0<(a0.size:Int))=True:=eq_true (of_decide_eq_true (z0_));replace q9:=eq_true q9))
     go_meet
     case rel=>exact ⟨_,(decide ((bt a0 0)>122)),(z2_),H',⟨by first | omega | exact Nat.le_refl _⟩,z6_⟩
   ·rw [if_neg c6] at H
    exact absurd H (by simp)
  ·replace c5:=Bool.eq_false_iff.mpr c5
   subst c5
   have H1:(impl_NameRight.j0 k a0 true)=some r:=by rw [if_neg (show ¬ (false=true) by decide)] at H;exact H
   clear H
   have H:=H1
   clear H1
   have H':=Aside0.mk H
   clear H
   go_wp2_with (first | ((with_reducible refine gc_ 112 ?_);refine gl_ (some 6) Tryd.func112 #[.string a0] ?_;(with_reducible refine (impl_size.calls a0 t456 _ A3.out).mono ?_);rintro e w' ⟨rfl,⟨nd,rfl⟩⟩;refine ⟨_,rfl,?_⟩) | ((with_reducible refine gc_ 42 ?_);refine gl_ (some 7) Tryd.func42 #[.int .i64 t456,.int .i64 1,.int .i64 20] ?_;(with_reducible refine (impl_within.calls t456 1 20 false _ A4.out).mono ?_);rintro e w' ⟨rfl,⟨nd,rfl⟩⟩;refine ⟨_,rfl,?_⟩))
   go_meet
   case rel=>exact ⟨_,(true),(z2_),H',⟨by first | omega | exact Nat.le_refl _⟩,z6_⟩
 case rest =>
  clear HC2
  try clear c1
  try clear p2
  try clear c4
  try clear c5
  try clear c6
  try clear c6b0
  try clear c6b1
  try clear p7
  try clear q7
  try clear hx7
  try clear qi7
  try clear c8
  try clear c8b0
  try clear p9
  try clear q9
  try clear hx9
  try clear qi9
  try clear p7
  try clear p9
  try clear q7
  try clear q9
  obtain ⟨kq,x18_1,rfl,HA,HJ1,⟨mc1,rfl⟩⟩:=hcut
  cases kq with
  | zero=>exact absurd HA.out (by simp [impl_NameRight.j0])
  | succ kj1 =>
   have H:=HA.out
   clear HA
   simp only [impl_NameRight.j0] at H
   by_cases c10:x18_1=true
   ·subst c10
    have H1:(some false)=some r:=by rw [if_pos rfl] at H;exact H
    clear H
    have H:=H1
    clear H1
    obtain rfl:=Option.some.inj H
    go_wp2
    go_ret
    exact ⟨z2_,z6_⟩
   ·replace c10:=Bool.eq_false_iff.mpr c10
    subst c10
    have H1:(impl_NameRight.l0 kj1 a0 (a0.size:Int) 0)=some r:=by rw [if_neg (show ¬ (false=true) by decide)] at H;exact H
    clear H
    have H:=H1
    clear H1
    have H':=Aside0.mk H
    clear H
    go_wp2
    go_loopg [21] kj1 (fun kq v21 w'=>∃ (x21_2:Int),v21 = .int .i64 x21_2∧Aside0 (impl_NameRight.l0 kq a0 (a0.size:Int) x21_2=some r)∧Aside0 (kq≤kj1)∧Drawn0 w w')
    case atStart=>exact ⟨(0),(z2_),H',⟨Nat.le_refl _⟩,z6_⟩
    case round =>
     clear H'
     try clear c1
     try clear p2
     try clear c4
     try clear c5
     try clear c6
     try clear c6b0
     try clear c6b1
     try clear p7
     try clear q7
     try clear hx7
     try clear qi7
     try clear c8
     try clear c8b0
     try clear p9
     try clear q9
     try clear hx9
     try clear qi9
     try clear c10
     try clear p2
     try clear p7
     try clear p9
     try clear q7
     try clear q9
     obtain ⟨x21_2,rfl,HA,HK2,⟨m2,rfl⟩⟩:=hrel
     cases gk with
     | zero=>exact absurd HA.out (by simp [impl_NameRight.l0])
     | succ k2 =>
      have H:=HA.out
      clear HA
      simp only [impl_NameRight.l0] at H
      by_cases c11:x21_2<(a0.size:Int)
      ·rw [if_pos c11] at H
       have c11b0:decide (x21_2<(a0.size:Int))=true:=decide_eq_true c11
       clear c11
       by_cases c12:0≤x21_2
       ·rw [if_pos c12] at H
        have c12b0:decide (0≤x21_2)=true:=decide_eq_true c12
        clear c12
        by_cases c13:x21_2<(a0.size:Int)
        ·rw [if_pos c13] at H
         have c13b0:decide (x21_2<(a0.size:Int))=true:=decide_eq_true c13
         clear c13
         by_cases c15:(bt a0 x21_2)≥97
         ·rw [if_pos c15] at H
          have c15b0:decide (97≤(bt a0 x21_2))=true:=decide_eq_true c15
          clear c15
          by_cases c16:(bt a0 x21_2)≤122
          ·rw [if_pos c16] at H
           have c16b0:decide ((bt a0 x21_2)≤122)=true:=decide_eq_true c16
           clear c16
           have H':=Aside0.mk H
           clear H
           have p14:0≤(x21_2:Int):=of_decide_eq_true (z0_)
           have q14:x21_2<(a0.size:Int):=of_decide_eq_true (z0_)
           have hx14:=bt_at a0 x21_2
           replace p14:=eq_true p14
           replace q14:=eq_true q14
           go_wp2
           go_roundg k2
           case measure=>have:=HJ1.out;have:=HK2.out;omega
           case rel=>exact ⟨(wrap64 (x21_2+1)),(z2_),H',⟨z13_ HJ1.out HK2.out⟩,z6_⟩
          ·rw [if_neg c16] at H
           have c16b0:decide ((bt a0 x21_2)≤122)=false:=decide_eq_false c16
           clear c16
           by_cases c17:(bt a0 x21_2)≥48
           ·rw [if_pos c17] at H
            have c17b0:decide (48≤(bt a0 x21_2))=true:=decide_eq_true c17
            clear c17
            by_cases c18:(bt a0 x21_2)≤57
            ·rw [if_pos c18] at H
             have c18b0:decide ((bt a0 x21_2)≤57)=true:=decide_eq_true c18
             clear c18
             have H':=Aside0.mk H
             clear H
             have p14:0≤(x21_2:Int):=of_decide_eq_true (z0_)
             have q14:x21_2<(a0.size:Int):=of_decide_eq_true (z0_)
             have hx14:=bt_at a0 x21_2
             replace p14:=eq_true p14
             replace q14:=eq_true q14
             go_wp2
             go_roundg k2
             case measure=>have:=HJ1.out;have:=HK2.out;omega
             case rel=>exact ⟨(wrap64 (x21_2+1)),(z2_),H',⟨z13_ HJ1.out HK2.out⟩,z6_⟩
            ·rw [if_neg c18] at H
             have c18b0:decide ((bt a0 x21_2)≤57)=false:=decide_eq_false c18
             clear c18
             by_cases c19:((bt a0 x21_2)=95)
             ·rw [if_pos c19] at H
              have c19b0:((bt a0 x21_2) == 95)=true:=beq_iff_eq.mpr c19
              have c19b1:((bt a0 x21_2) != 95)=false:=bne_eq_false_iff_eq.mpr c19
              clear c19
              have H':=Aside0.mk H
              clear H
              have p14:0≤(x21_2:Int):=of_decide_eq_true (z0_)
              have q14:x21_2<(a0.size:Int):=of_decide_eq_true (z0_)
              have hx14:=bt_at a0 x21_2
              replace p14:=eq_true p14
              replace q14:=eq_true q14
              go_wp2
              go_roundg k2
              case measure=>have:=HJ1.out;have:=HK2.out;omega
              case rel=>exact ⟨(wrap64 (x21_2+1)),(z2_),H',⟨z13_ HJ1.out HK2.out⟩,z6_⟩
             ·rw [if_neg c19] at H
              have c19b0:((bt a0 x21_2) == 95)=false:=beq_eq_false_iff_ne.mpr c19
              have c19b1:((bt a0 x21_2) != 95)=true:=bne_iff_ne.mpr c19
              obtain rfl:=Option.some.inj H
              have p14:0≤(x21_2:Int):=of_decide_eq_true (z0_)
              have q14:x21_2<(a0.size:Int):=of_decide_eq_true (z0_)
              have hx14:=bt_at a0 x21_2
              replace p14:=eq_true p14
              replace q14:=eq_true q14
              go_wp2
              go_ret
              exact ⟨z2_,z6_⟩
           ·rw [if_neg c17] at H
            have c17b0:decide (48≤(bt a0 x21_2))=false:=decide_eq_false c17
            clear c17
            by_cases c20:((bt a0 x21_2)=95)
            ·rw [if_pos c20] at H
             have c20b0:((bt a0 x21_2) == 95)=true:=beq_iff_eq.mpr c20
             have c20b1:((bt a0 x21_2) != 95)=false:=bne_eq_false_iff_eq.mpr c20
             clear c20
             have H':=Aside0.mk H
             clear H
             have p14:0≤(x21_2:Int):=of_decide_eq_true (z0_)
             have q14:x21_2<(a0.size:Int):=of_decide_eq_true (z0_)
             have hx14:=bt_at a0 x21_2
             replace p14:=eq_true p14
             replace q14:=eq_true q14
             go_wp2
             go_roundg k2
             case measure=>have:=HJ1.out;have:=HK2.out;omega
             case rel=>exact ⟨(wrap64 (x21_2+1)),(z2_),H',⟨z13_ HJ1.out HK2.out⟩,z6_⟩
            ·rw [if_neg c20] at H
             have c20b0:((bt a0 x21_2) == 95)=false:=beq_eq_false_iff_ne.mpr c20
             have c20b1:((bt a0 x21_2) != 95)=true:=bne_iff_ne.mpr c20
             obtain rfl:=Option.some.inj H
             have p14:0≤(x21_2:Int):=of_decide_eq_true (z0_)
             have q14:x21_2<(a0.size:Int):=of_decide_eq_true (z0_)
             have hx14:=bt_at a0 x21_2
             replace p14:=eq_true p14
             replace q14:=eq_true q14
             go_wp2
             go_ret
             exact ⟨z2_,z6_⟩
         ·rw [if_neg c15] at H
          have c15b0:decide (97≤(bt a0 x21_2))=false:=decide_eq_false c15
          clear c15
          by_cases c21:(bt a0 x21_2)≥48
          ·rw [if_pos c21] at H
           have c21b0:decide (48≤(bt a0 x21_2))=true:=decide_eq_true c21
           clear c21
           by_cases c22:(bt a0 x21_2)≤57
           ·rw [if_pos c22] at H
            have c22b0:decide ((bt a0 x21_2)≤57)=true:=decide_eq_true c22
            clear c22
            have H':=Aside0.mk H
            clear H
            have p14:0≤(x21_2:Int):=of_decide_eq_true (z0_)
            have q14:x21_2<(a0.size:Int):=of_decide_eq_true (z0_)
            have hx14:=bt_at a0 x21_2
            replace p14:=eq_true p14
            replace q14:=eq_true q14
            go_wp2
            go_roundg k2
            case measure=>have:=HJ1.out;have:=HK2.out;omega
            case rel=>exact ⟨(wrap64 (x21_2+1)),(z2_),H',⟨z13_ HJ1.out HK2.out⟩,z6_⟩
           ·rw [if_neg c22] at H
            have c22b0:decide ((bt a0 x21_2)≤57)=false:=decide_eq_false c22
            clear c22
            by_cases c23:((bt a0 x21_2)=95)
            ·rw [if_pos c23] at H
             have c23b0:((bt a0 x21_2) == 95)=true:=beq_iff_eq.mpr c23
             have c23b1:((bt a0 x21_2) != 95)=false:=bne_eq_false_iff_eq.mpr c23
             clear c23
             have H':=Aside0.mk H
             clear H
             have p14:0≤(x21_2:Int):=of_decide_eq_true (z0_)
             have q14:x21_2<(a0.size:Int):=of_decide_eq_true (z0_)
             have hx14:=bt_at a0 x21_2
             replace p14:=eq_true p14
             replace q14:=eq_true q14
             go_wp2
             go_roundg k2
             case measure=>have:=HJ1.out;have:=HK2.out;omega
             case rel=>exact ⟨(wrap64 (x21_2+1)),(z2_),H',⟨z13_ HJ1.out HK2.out⟩,z6_⟩
            ·rw [if_neg c23] at H
             have c23b0:((bt a0 x21_2) == 95)=false:=beq_eq_false_iff_ne.mpr c23
             have c23b1:((bt a0 x21_2) != 95)=true:=bne_iff_ne.mpr c23
             obtain rfl:=Option.some.inj H
             have p14:0≤(x21_2:Int):=of_decide_eq_true (z0_)
             have q14:x21_2<(a0.size:Int):=of_decide_eq_true (z0_)
             have hx14:=bt_at a0 x21_2
             replace p14:=eq_true p14
             replace q14:=eq_true q14
             go_wp2
             go_ret
             exact ⟨z2_,z6_⟩
          ·rw [if_neg c21] at H
           have c21b0:decide (48≤(bt a0 x21_2))=false:=decide_eq_false c21
           clear c21
           by_cases c24:((bt a0 x21_2)=95)
           ·rw [if_pos c24] at H
            have c24b0:((bt a0 x21_2) == 95)=true:=beq_iff_eq.mpr c24
            have c24b1:((bt a0 x21_2) != 95)=false:=bne_eq_false_iff_eq.mpr c24
            clear c24
            have H':=Aside0.mk H
            clear H
            have p14:0≤(x21_2:Int):=of_decide_eq_true (z0_)
            have q14:x21_2<(a0.size:Int):=of_decide_eq_true (z0_)
            have hx14:=bt_at a0 x21_2
            replace p14:=eq_true p14
            replace q14:=eq_true q14
            go_wp2
            go_roundg k2
            case measure=>have:=HJ1.out;have:=HK2.out;omega
            case rel=>exact ⟨(wrap64 (x21_2+1)),(z2_),H',⟨z13_ HJ1.out HK2.out⟩,z6_⟩
           ·rw [if_neg c24] at H
            have c24b0:((bt a0 x21_2) == 95)=false:=beq_eq_false_iff_ne.mpr c24
            have c24b1:((bt a0 x21_2) != 95)=true:=bne_iff_ne.mpr c24
            obtain rfl:=Option.some.inj H
            have p14:0≤(x21_2:Int):=of_decide_eq_true (z0_)
            have q14:x21_2<(a0.size:Int):=of_decide_eq_true (z0_)
            have hx14:=bt_at a0 x21_2
            replace p14:=eq_true p14
            replace q14:=eq_true q14
            go_wp2
            go_ret
            exact ⟨z2_,z6_⟩
        ·rw [if_neg c13] at H
         exact absurd H (by simp)
       ·rw [if_neg c12] at H
        exact absurd H (by simp)
      ·rw [if_neg c11] at H
       have c11b0:decide (x21_2<(a0.size:Int))=false:=decide_eq_false c11
       clear c11
       obtain rfl:=Option.some.inj H
       go_wp2
       go_ret
       exact ⟨z2_,z6_⟩


/-! ### impl_isKeyed: function 52 -/
def impl_isKeyed.f (k:Nat) (a0_0:Int) (l0_1:List (S77)) (a1:ByteArray):Option (Bool):=(impl_isLong.f k (([a1]:List ByteArray))).bind fun t462=>(if t462=true then (some false) else ((impl_RingRight.f k a0_0 l0_1).bind fun t463=>(if t463=true then ((impl_NameRight.f k a1).bind fun t464=>(some t464)) else (some false))))
theorem impl_isKeyed.mono:∀ a0 a1 a2 k,LeO (impl_isKeyed.f k a0 a1 a2) (impl_isKeyed.f (k+1) a0 a1 a2):=by
 intro a0 a1 a2 k
 unfold impl_isKeyed.f
 repeat' first
   | (with_reducible exact impl_NameRight.mono _ _)
   | (with_reducible exact impl_RingRight.mono _ _ _)
   | (with_reducible exact impl_isLong.mono _ _)
   | (with_reducible exact LeO.refl _)
   | (with_reducible exact LeO.none _)
   | (with_reducible refine LeO.ite ?_ ?_)
   | (with_reducible refine LeO.bind ?_ (fun _=>?_))
   | exact impl_NameRight.mono _ _
   | exact impl_RingRight.mono _ _ _
   | exact impl_isLong.mono _ _
   | exact LeO.none _
   | refine LeO.ite ?_ ?_
   | refine LeO.bind ?_ (fun _=>?_)
set_option maxHeartbeats 8000000 in
set_option maxRecDepth 100000 in
theorem impl_isKeyed.calls (k:Nat) (a0_0:Int) (A0_1:Option Addr) (c0_1:Nat) (l0_1:List (S77)) (a1:ByteArray) (r:Bool) (w:World) (hr0_1:Kd.C k77 w A0_1 l0_1.length l0_1) (hc0_1:l0_1.length≤c0_1) (h:impl_isKeyed.f k a0_0 l0_1 a1=some r) :
  Calls Tryd.prog 52 #[.agg #[.int .i64 a0_0,.slice A0_1 l0_1.length c0_1],.string a1] w fun e w'=>e = .returned (.bool r)∧Below w.heap.size w w':=by
 have hu24:=Tryd.underlying24
 have HR0_1:=Aside0.mk hr0_1
 have HC0_1:=Aside0.mk hc0_1
 clear hr0_1 hc0_1
 have HB:=Aside0.mk (Below.refl w.heap.size w)
 have H:((impl_isLong.f k (([a1]:List ByteArray))).bind fun t462=>(if t462=true then (some false) else ((impl_RingRight.f k a0_0 l0_1).bind fun t463=>(if t463=true then ((impl_NameRight.f k a1).bind fun t464=>(some t464)) else (some false)))))=some r:=h
 clear h
 obtain ⟨y459,hy459⟩:∃ y_:List ByteArray,y_=(([a1]:List ByteArray)):=⟨_,rfl⟩
 replace H:((impl_isLong.f k y459).bind fun t462=>(if t462=true then (some false) else ((impl_RingRight.f k a0_0 l0_1).bind fun t463=>(if t463=true then ((impl_NameRight.f k a1).bind fun t464=>(some t464)) else (some false)))))=some r:=by first | (rw [hy459];with_reducible exact H) | (have H2_:=(Option.bind_some _ _).symm.trans H;rw [hy459];with_reducible exact H2_) | (have H2_:=(Option.bind_some _ _).symm.trans H;with_reducible exact H2_) | with_reducible exact H | (rw [hy459];exact H) | exact H
 have Ny459:=Aside0.mk hy459
 clear hy459
 replace H:=Option.bind_eq_some_iff.mp H
 obtain ⟨t462,A30,H⟩:=H
 replace H:(if t462=true then (some false) else ((impl_RingRight.f k a0_0 l0_1).bind fun t463=>(if t463=true then ((impl_NameRight.f k a1).bind fun t464=>(some t464)) else (some false))))=some r:=H
 have A3:=Aside0.mk A30
 clear A30
 by_cases c4:t462=true
 ·subst c4
  have H1:(some false)=some r:=by rw [if_pos rfl] at H;exact H
  clear H
  have H:=H1
  clear H1
  obtain rfl:=Option.some.inj H
  go_enter Tryd.func52,Tryd.ntmps52
  go_wp2_with (first | ((with_reducible refine gd_ 2 ?_);refine be_ 2 #[.int .i64 a0_0,.slice A0_1 l0_1.length c0_1] 24 ?_;intro gb458 hg w5 hbox hb;refine as4_ (below_step (z4_ HB.out) hb) (hbox) ((z8_ HB.out:w.heap.size≤gb458)) ((z8_ HB.out:w.heap.size≤gb458)) ?_;clear HB;intro HB BK458 GW458 GE458;clear hb hbox hg) | ((with_reducible refine gd_ 6 ?_);refine Kd.R_lit Kd.string _ 9 ?hg (N:=6) ?hd (xs:=([a1]:List ByteArray)) (inner:=[.string a1]) (ok:=fun _=>True) (okp:=fun _=>True) ?hr ?hp (fun _ hk=>hk) trivial (Below.refl _ _) (Nat.le_refl _) (by simp) ?_;(case hd=>rfl);(case hg=>rfl);(case hr=>first | (go_simp;done) | (go_simp;rfl));(case hp=>exact (Reps.one (show Kd.M Kd.string _ _ _ a1 [.string a1] from rfl) (Reps.none _ _)));intro v460 w6 ho7 hb hg_ hnew_;clear hg_ hnew_;(first | rw [← Ny459.out] at ho7 | (simp only [Int.reduceToNat] at ho7;rw [← Ny459.out] at ho7));refine as3_ (Kd.R_lower ho7 (below_size (z7_ HB.out GE458.out))) (blkB_ BK458.out hb) (below_step (z7_ HB.out GE458.out) hb) ?_;clear BK458 HB;intro HO461 BK458 HB;clear hb ho7;obtain ⟨Ao8,co8,eo8⟩:=Kd.R_slice HO461.out;subst eo8) | ((with_reducible refine gc_ 83 ?_);refine gl_ (some 7) Tryd.func83 #[.slice Ao8 y459.length co8] ?_;(with_reducible refine (impl_isLong.calls k _ _ y459 true _ ?s1 ?s2 A3.out).mono ?_);(case s1=>repeat (first | exact (Kd.R_reads' HO461.out).2.2 | (with_reducible refine Kd.C_alloc ?_ _) | (with_reducible refine Kd.C_drewN ?_ _) | (with_reducible refine Kd.C_drew ?_)));(case s2=>exact (Kd.R_reads' HO461.out).2.1);rintro e w' ⟨rfl,⟨nd,rfl⟩⟩;refine ⟨_,rfl,?_⟩))
  go_ret
  exact ⟨z10_,z7_ HB.out GE458.out⟩
 ·replace c4:=Bool.eq_false_iff.mpr c4
  subst c4
  have H1:((impl_RingRight.f k a0_0 l0_1).bind fun t463=>(if t463=true then ((impl_NameRight.f k a1).bind fun t464=>(some t464)) else (some false)))=some r:=by rw [if_neg (show ¬ (false=true) by decide)] at H;exact H
  clear H
  have H:=H1
  clear H1
  replace H:=Option.bind_eq_some_iff.mp H
  obtain ⟨t463,A90,H⟩:=H
  replace H:(if t463=true then ((impl_NameRight.f k a1).bind fun t464=>(some t464)) else (some false))=some r:=H
  have A9:=Aside0.mk A90
  clear A90
  by_cases c10:t463=true
  ·subst c10
   have H1:((impl_NameRight.f k a1).bind fun t464=>(some t464))=some r:=by rw [if_pos rfl] at H;exact H
   clear H
   have H:=H1
   clear H1
   replace H:=Option.bind_eq_some_iff.mp H
   obtain ⟨t464,A110,H⟩:=H
   replace H:(some t464)=some r:=H
   have A11:=Aside0.mk A110
   clear A110
   obtain rfl:=Option.some.inj H
   go_enter Tryd.func52,Tryd.ntmps52
   go_wp2_with (first | ((with_reducible refine gd_ 2 ?_);refine be_ 2 #[.int .i64 a0_0,.slice A0_1 l0_1.length c0_1] 24 ?_;intro gb458 hg w12 hbox hb;refine as4_ (below_step (z4_ HB.out) hb) (hbox) ((z8_ HB.out:w.heap.size≤gb458)) ((z8_ HB.out:w.heap.size≤gb458)) ?_;clear HB;intro HB BK458 GW458 GE458;clear hb hbox hg) | ((with_reducible refine gd_ 6 ?_);refine Kd.R_lit Kd.string _ 9 ?hg (N:=6) ?hd (xs:=([a1]:List ByteArray)) (inner:=[.string a1]) (ok:=fun _=>True) (okp:=fun _=>True) ?hr ?hp (fun _ hk=>hk) trivial (Below.refl _ _) (Nat.le_refl _) (by simp) ?_;(case hd=>rfl);(case hg=>rfl);(case hr=>first | (go_simp;done) | (go_simp;rfl));(case hp=>exact (Reps.one (show Kd.M Kd.string _ _ _ a1 [.string a1] from rfl) (Reps.none _ _)));intro v460 w13 ho14 hb hg_ hnew_;clear hg_ hnew_;(first | rw [← Ny459.out] at ho14 | (simp only [Int.reduceToNat] at ho14;rw [← Ny459.out] at ho14));refine as3_ (Kd.R_lower ho14 (below_size (z7_ HB.out GE458.out))) (blkB_ BK458.out hb) (below_step (z7_ HB.out GE458.out) hb) ?_;clear BK458 HB;intro HO461 BK458 HB;clear hb ho14;obtain ⟨Ao15,co15,eo15⟩:=Kd.R_slice HO461.out;subst eo15) | ((with_reducible refine gc_ 83 ?_);refine gl_ (some 7) Tryd.func83 #[.slice Ao15 y459.length co15] ?_;(with_reducible refine (impl_isLong.calls k _ _ y459 false _ ?s1 ?s2 A3.out).mono ?_);(case s1=>repeat (first | exact (Kd.R_reads' HO461.out).2.2 | (with_reducible refine Kd.C_alloc ?_ _) | (with_reducible refine Kd.C_drewN ?_ _) | (with_reducible refine Kd.C_drew ?_)));(case s2=>exact (Kd.R_reads' HO461.out).2.1);rintro e w' ⟨rfl,⟨nd,rfl⟩⟩;refine ⟨_,rfl,?_⟩;have ⟨hcz16_0,hcz16_1,hfz16_0,hfz16_1⟩:=cz2_ BK458.out) | (go_at_call 47;(with_reducible refine (impl_RingRight.calls k a0_0 _ _ l0_1 true _ ?s1 ?s2 A9.out).mono ?_);(case s1=>repeat (first | exact (Kd.C_below HR0_1.out (z7_ HB.out GE458.out)) | (with_reducible refine Kd.C_alloc ?_ _) | (with_reducible refine Kd.C_drewN ?_ _) | (with_reducible refine Kd.C_drew ?_)));(case s2=>exact HC0_1.out);rintro e w17 ⟨rfl,hb⟩;refine as3_ (Kd.R_below (z1_ HO461.out) hb) (blkB_ BK458.out hb) (below_step (z7_ HB.out GE458.out) hb) ?_;clear HO461 BK458 HB;intro HO461 BK458 HB;(try clear hb)) | (go_at_call 84;(with_reducible refine (impl_NameRight.calls k a1 t464 _ A11.out).mono ?_);rintro e w' ⟨rfl,⟨nd,rfl⟩⟩))
   go_ret
   exact ⟨z10_,z7_ HB.out GE458.out⟩
  ·replace c10:=Bool.eq_false_iff.mpr c10
   subst c10
   have H1:(some false)=some r:=by rw [if_neg (show ¬ (false=true) by decide)] at H;exact H
   clear H
   have H:=H1
   clear H1
   obtain rfl:=Option.some.inj H
   go_enter Tryd.func52,Tryd.ntmps52
   go_wp2_with (first | ((with_reducible refine gd_ 2 ?_);refine be_ 2 #[.int .i64 a0_0,.slice A0_1 l0_1.length c0_1] 24 ?_;intro gb458 hg w18 hbox hb;refine as4_ (below_step (z4_ HB.out) hb) (hbox) ((z8_ HB.out:w.heap.size≤gb458)) ((z8_ HB.out:w.heap.size≤gb458)) ?_;clear HB;intro HB BK458 GW458 GE458;clear hb hbox hg) | ((with_reducible refine gd_ 6 ?_);refine Kd.R_lit Kd.string _ 9 ?hg (N:=6) ?hd (xs:=([a1]:List ByteArray)) (inner:=[.string a1]) (ok:=fun _=>True) (okp:=fun _=>True) ?hr ?hp (fun _ hk=>hk) trivial (Below.refl _ _) (Nat.le_refl _) (by simp) ?_;(case hd=>rfl);(case hg=>rfl);(case hr=>first | (go_simp;done) | (go_simp;rfl));(case hp=>exact (Reps.one (show Kd.M Kd.string _ _ _ a1 [.string a1] from rfl) (Reps.none _ _)));intro v460 w19 ho20 hb hg_ hnew_;clear hg_ hnew_;(first | rw [← Ny459.out] at ho20 | (simp only [Int.reduceToNat] at ho20;rw [← Ny459.out] at ho20));refine as3_ (Kd.R_lower ho20 (below_size (z7_ HB.out GE458.out))) (blkB_ BK458.out hb) (below_step (z7_ HB.out GE458.out) hb) ?_;clear BK458 HB;intro HO461 BK458 HB;clear hb ho20;obtain ⟨Ao21,co21,eo21⟩:=Kd.R_slice HO461.out;subst eo21) | ((with_reducible refine gc_ 83 ?_);refine gl_ (some 7) Tryd.func83 #[.slice Ao21 y459.length co21] ?_;(with_reducible refine (impl_isLong.calls k _ _ y459 false _ ?s1 ?s2 A3.out).mono ?_);(case s1=>repeat (first | exact (Kd.R_reads' HO461.out).2.2 | (with_reducible refine Kd.C_alloc ?_ _) | (with_reducible refine Kd.C_drewN ?_ _) | (with_reducible refine Kd.C_drew ?_)));(case s2=>exact (Kd.R_reads' HO461.out).2.1);rintro e w' ⟨rfl,⟨nd,rfl⟩⟩;refine ⟨_,rfl,?_⟩;have ⟨hcz22_0,hcz22_1,hfz22_0,hfz22_1⟩:=cz2_ BK458.out) | (go_at_call 47;(with_reducible refine (impl_RingRight.calls k a0_0 _ _ l0_1 false _ ?s1 ?s2 A9.out).mono ?_);(case s1=>repeat (first | exact (Kd.C_below HR0_1.out (z7_ HB.out GE458.out)) | (with_reducible refine Kd.C_alloc ?_ _) | (with_reducible refine Kd.C_drewN ?_ _) | (with_reducible refine Kd.C_drew ?_)));(case s2=>exact HC0_1.out);rintro e w23 ⟨rfl,hb⟩;refine as3_ (Kd.R_below (z1_ HO461.out) hb) (blkB_ BK458.out hb) (below_step (z7_ HB.out GE458.out) hb) ?_;clear HO461 BK458 HB;intro HO461 BK458 HB;(try clear hb)))
   go_ret
   exact ⟨z10_,z7_ HB.out GE458.out⟩


/-! ### slices_Index_int64_int64: function 114 -/
def slices_Index_int64_int64.l0:Nat→List Int→Int→Int→Int→Option (Int)
 | 0,_,_,_,_=>none
 | k+1,x0,x1,x7,x8=>if x8<x7 then (if 0≤x8 then (if x8<(x0.length:Int) then (if x1=(rd x0 x8) then (some x8) else (slices_Index_int64_int64.l0 k x0 x1 x7 (wrap64 (x8+1)))) else (none)) else (none)) else (some (-1))
def slices_Index_int64_int64.f (k:Nat) (l0:List Int) (a1:Int):Option (Int):=slices_Index_int64_int64.l0 k l0 a1 (l0.length:Int) 0
theorem slices_Index_int64_int64.mono_l:∀ k,(∀ y0 y1 y2 y3,LeO (slices_Index_int64_int64.l0 k y0 y1 y2 y3) (slices_Index_int64_int64.l0 (k+1) y0 y1 y2 y3))
 | 0=>fun _ _ _ _ r h=>by simp [slices_Index_int64_int64.l0] at h
 | k+1=>by
  have ih0:=slices_Index_int64_int64.mono_l k
  ·intro y0 y1 y2 y3
   unfold slices_Index_int64_int64.l0
   repeat' first
   | (with_reducible exact ih0 _ _ _ _)
   | (with_reducible exact LeO.refl _)
   | (with_reducible exact LeO.none _)
   | (with_reducible refine LeO.ite ?_ ?_)
   | (with_reducible refine LeO.bind ?_ (fun _=>?_))
   | exact ih0 _ _ _ _
   | exact LeO.none _
   | refine LeO.ite ?_ ?_
   | refine LeO.bind ?_ (fun _=>?_)
theorem slices_Index_int64_int64.mono:∀ a0 a1 k,LeO (slices_Index_int64_int64.f k a0 a1) (slices_Index_int64_int64.f (k+1) a0 a1):=by
 intro a0 a1 k
 have ih0:=slices_Index_int64_int64.mono_l k
 unfold slices_Index_int64_int64.f
 repeat' first
   | (with_reducible exact ih0 _ _ _ _)
   | (with_reducible exact LeO.refl _)
   | (with_reducible exact LeO.none _)
   | (with_reducible refine LeO.ite ?_ ?_)
   | (with_reducible refine LeO.bind ?_ (fun _=>?_))
   | exact ih0 _ _ _ _
   | exact LeO.none _
   | refine LeO.ite ?_ ?_
   | refine LeO.bind ?_ (fun _=>?_)
set_option maxHeartbeats 8000000 in
set_option maxRecDepth 100000 in
theorem slices_Index_int64_int64.calls (k:Nat) (A0:Option Addr) (c0:Nat) (l0:List Int) (a1:Int) (r:Int) (w:World) (hr0:Kd.C (Kd.int .i64) w A0 l0.length l0) (hc0:l0.length≤c0) (h:slices_Index_int64_int64.f k l0 a1=some r) :
  Calls Tryd.prog 114 #[.slice A0 l0.length c0,.int .i64 a1] w fun e w'=>e = .returned (.int .i64 r)∧Drawn0 w w':=by
 have HR0:=Aside0.mk hr0
 have HC0:=Aside0.mk hc0
 clear hr0 hc0
 have H:(slices_Index_int64_int64.l0 k l0 a1 (l0.length:Int) 0)=some r:=h
 clear h
 have H':=Aside0.mk H
 clear H
 go_enter Tryd.func114,Tryd.ntmps114
 go_wp2
 go_loopg [8] k (fun kq v8 w'=>∃ (x8_1:Int),v8 = .int .i64 x8_1∧Aside0 (slices_Index_int64_int64.l0 kq l0 a1 (l0.length:Int) x8_1=some r)∧Aside0 (kq≤k)∧Drawn0 w w')
 case atStart=>exact ⟨(0),(z2_),H',⟨Nat.le_refl _⟩,z6_⟩
 case round =>
  clear H'
  try clear c1
  try clear p2
  obtain ⟨x8_1,rfl,HA,HK1,⟨m1,rfl⟩⟩:=hrel
  cases gk with
  | zero=>exact absurd HA.out (by simp [slices_Index_int64_int64.l0])
  | succ k1 =>
   have H:=HA.out
   clear HA
   simp only [slices_Index_int64_int64.l0] at H
   by_cases c3:x8_1<(l0.length:Int)
   ·rw [if_pos c3] at H
    have c3b0:decide (x8_1<(l0.length:Int))=true:=decide_eq_true c3
    clear c3
    by_cases c4:0≤x8_1
    ·rw [if_pos c4] at H
     have c4b0:decide (0≤x8_1)=true:=decide_eq_true c4
     clear c4
     by_cases c5:x8_1<(l0.length:Int)
     ·rw [if_pos c5] at H
      have c5b0:decide (x8_1<(l0.length:Int))=true:=decide_eq_true c5
      clear c5
      by_cases c6:a1=(rd l0 x8_1)
      ·rw [if_pos c6] at H
       have c6b0:(a1 == (rd l0 x8_1))=true:=beq_iff_eq.mpr c6
       have c6b1:(a1 != (rd l0 x8_1))=false:=bne_eq_false_iff_eq.mpr c6
       clear c6
       obtain rfl:=Option.some.inj H
       have p465:0≤(x8_1:Int):=of_decide_eq_true (z0_)
       have q465:x8_1<(l0.length:Int):=of_decide_eq_true (z0_)
       obtain ⟨ad465,e465,hx465_0⟩:=Kd.at_int HR0.out x8_1 p465 q465
       cases e465
       replace p465:=eq_true p465
       replace q465:=eq_true q465
       go_wp2
       go_ret
       exact ⟨z2_,z6_⟩
      ·rw [if_neg c6] at H
       have c6b0:(a1 == (rd l0 x8_1))=false:=beq_eq_false_iff_ne.mpr c6
       have c6b1:(a1 != (rd l0 x8_1))=true:=bne_iff_ne.mpr c6
       have H':=Aside0.mk H
       clear H
       have p465:0≤(x8_1:Int):=of_decide_eq_true (z0_)
       have q465:x8_1<(l0.length:Int):=of_decide_eq_true (z0_)
       obtain ⟨ad465,e465,hx465_0⟩:=Kd.at_int HR0.out x8_1 p465 q465
       cases e465
       replace p465:=eq_true p465
       replace q465:=eq_true q465
       go_wp2
       go_roundg k1
       case measure=>have:=HK1.out;omega
       case rel=>exact ⟨(wrap64 (x8_1+1)),(z2_),H',⟨by have:=HK1.out;omega⟩,z6_⟩
     ·rw [if_neg c5] at H
      exact absurd H (by simp)
    ·rw [if_neg c4] at H
     exact absurd H (by simp)
   ·rw [if_neg c3] at H
    have c3b0:decide (x8_1<(l0.length:Int))=false:=decide_eq_false c3
    clear c3
    obtain rfl:=Option.some.inj H
    go_wp2
    go_ret
    exact ⟨z2_,z6_⟩


/-! ### slices_Contains_int64_int64: function 89 -/
def slices_Contains_int64_int64.f (k:Nat) (l0:List Int) (a1:Int):Option (Bool):=(slices_Index_int64_int64.f k l0 a1).bind fun t466=>(some (decide (t466≥0)))
theorem slices_Contains_int64_int64.mono:∀ a0 a1 k,LeO (slices_Contains_int64_int64.f k a0 a1) (slices_Contains_int64_int64.f (k+1) a0 a1):=by
 intro a0 a1 k
 unfold slices_Contains_int64_int64.f
 repeat' first
   | (with_reducible exact slices_Index_int64_int64.mono _ _ _)
   | (with_reducible exact LeO.refl _)
   | (with_reducible exact LeO.none _)
   | (with_reducible refine LeO.ite ?_ ?_)
   | (with_reducible refine LeO.bind ?_ (fun _=>?_))
   | exact slices_Index_int64_int64.mono _ _ _
   | exact LeO.none _
   | refine LeO.ite ?_ ?_
   | refine LeO.bind ?_ (fun _=>?_)
set_option maxHeartbeats 8000000 in
set_option maxRecDepth 100000 in
theorem slices_Contains_int64_int64.calls (k:Nat) (A0:Option Addr) (c0:Nat) (l0:List Int) (a1:Int) (r:Bool) (w:World) (hr0:Kd.C (Kd.int .i64) w A0 l0.length l0) (hc0:l0.length≤c0) (h:slices_Contains_int64_int64.f k l0 a1=some r) :
  Calls Tryd.prog 89 #[.slice A0 l0.length c0,.int .i64 a1] w fun e w'=>e = .returned (.bool r)∧Drawn0 w w':=by
 have HR0:=Aside0.mk hr0
 have HC0:=Aside0.mk hc0
 clear hr0 hc0
 have H:((slices_Index_int64_int64.f k l0 a1).bind fun t466=>(some (decide (t466≥0))))=some r:=h
 clear h
 replace H:=Option.bind_eq_some_iff.mp H
 obtain ⟨t466,A30,H⟩:=H
 replace H:(some (decide (t466≥0)))=some r:=H
 have A3:=Aside0.mk A30
 clear A30
 obtain rfl:=Option.some.inj H
 go_enter Tryd.func89,Tryd.ntmps89
 go_wp2_with (first | ((with_reducible refine gc_ 114 ?_);refine gl_ (some 7) Tryd.func114 #[.slice A0 l0.length c0,.int .i64 a1] ?_;(with_reducible refine (slices_Index_int64_int64.calls k _ _ l0 a1 t466 _ ?s1 ?s2 A3.out).mono ?_);(case s1=>repeat (first | exact HR0.out | (with_reducible refine Kd.C_alloc ?_ _) | (with_reducible refine Kd.C_drewN ?_ _) | (with_reducible refine Kd.C_drew ?_)));(case s2=>exact HC0.out);rintro e w' ⟨rfl,⟨nd,rfl⟩⟩;refine ⟨_,rfl,?_⟩))
 go_ret
 exact ⟨z2_,z6_⟩


/-! ### impl_order_1_cap: function 93 -/
def impl_order_1_cap.f (a0_0:Int) (a0_1:Int) (a1_0:Int):Option (Bool):=some (decide (a0_0≥a1_0))
set_option maxHeartbeats 8000000 in
set_option maxRecDepth 100000 in
theorem impl_order_1_cap.calls (a0_0:Int) (a0_1:Int) (gb1:Nat) (a1_0:Int) (r:Bool) (w:World) (hk1:w.heap[gb1]? = some (.cells #[.int .i64 a1_0] 2 (0,0))) (h:impl_order_1_cap.f a0_0 a0_1 a1_0=some r) :
  Calls Tryd.prog 93 #[.agg #[.int .i64 a0_0,.int .i64 a0_1],.pointer (some ⟨gb1,0,none⟩)] w fun e w'=>e = .returned (.bool r)∧Below w.heap.size w w':=by
 have hu77:=Tryd.underlying77
 have BK61:=Aside0.mk hk1
 clear hk1
 have HB:=Aside0.mk (Below.refl w.heap.size w)
 have H:(some (decide (a0_0≥a1_0)))=some r:=h
 clear h
 obtain rfl:=Option.some.inj H
 go_enter Tryd.func93,Tryd.ntmps93
 go_wp2_with (first | ((with_reducible refine gd_ 2 ?_);refine be_ 2 #[.int .i64 a0_0,.int .i64 a0_1] 77 ?_;intro gb467 hg w3 hbox hb;refine as7_ (blkB_ BK61.out hb) (below_step (by repeat (first | (with_reducible first | exact HB.out | apply below_alloc | apply pw_below_drewN | apply below_drew1 | refine below_set ?_ GE61.out) | exact HB.out)) hb) (hbox) ((by rw [hg];exact (below_size (by repeat (first | (with_reducible first | exact HB.out | apply below_alloc | apply pw_below_drewN | apply below_drew1 | refine below_set ?_ GE61.out) | exact HB.out))):w.heap.size≤gb467)) ((by rw [hg];exact (below_size (by repeat (first | (with_reducible first | exact HB.out | apply below_alloc | apply pw_below_drewN | apply below_drew1 | refine below_set ?_ GE61.out) | exact HB.out))):w.heap.size≤gb467)) (neL_ BK61.out hg) (neG_ BK61.out hg) ?_;clear BK61 HB;intro BK61 HB BK467 GW467 GE467 NB61_467 NB467_61;clear hb hbox hg;have hnb4:=NB467_61.out;have hnc4:=NB61_467.out;have ⟨hcz5_0,hcz5_1,hfz5_0,hfz5_1⟩:=cz2_ BK467.out;have ⟨hcz6_0,hfz6_0⟩:=cz1_ BK61.out))
 go_ret
 exact ⟨z10_,by repeat (first | (with_reducible first | exact HB.out | apply below_alloc | apply pw_below_drewN | apply below_drew1 | refine below_set ?_ GE61.out | refine below_set ?_ GE467.out) | exact HB.out)⟩


/-! ### slices_IndexFunc_impl_Token_impl_Token_impl_order_1: function 92 -/
def slices_IndexFunc_impl_Token_impl_Token_impl_order_1.l0:Nat→List (S77)→Int→Int→Int→Option (Int)
 | 0,_,_,_,_=>none
 | k+1,x0,x7,x8,x62000=>if x8<x7 then (if 0≤x8 then (if x8<(x0.length:Int) then ((impl_order_1_cap.f ((rd_T77 x0 x8).f0) ((rd_T77 x0 x8).f1) x62000).bind fun t469=>(if t469=true then (some x8) else (slices_IndexFunc_impl_Token_impl_Token_impl_order_1.l0 k x0 x7 (wrap64 (x8+1)) x62000))) else (none)) else (none)) else (some (-1))
def slices_IndexFunc_impl_Token_impl_Token_impl_order_1.f (k:Nat) (l0:List (S77)) (a1_0:Int):Option (Int):=slices_IndexFunc_impl_Token_impl_Token_impl_order_1.l0 k l0 (l0.length:Int) 0 a1_0
theorem slices_IndexFunc_impl_Token_impl_Token_impl_order_1.mono_l:∀ k,(∀ y0 y1 y2 y3,LeO (slices_IndexFunc_impl_Token_impl_Token_impl_order_1.l0 k y0 y1 y2 y3) (slices_IndexFunc_impl_Token_impl_Token_impl_order_1.l0 (k+1) y0 y1 y2 y3))
 | 0=>fun _ _ _ _ r h=>by simp [slices_IndexFunc_impl_Token_impl_Token_impl_order_1.l0] at h
 | k+1=>by
  have ih0:=slices_IndexFunc_impl_Token_impl_Token_impl_order_1.mono_l k
  ·intro y0 y1 y2 y3
   unfold slices_IndexFunc_impl_Token_impl_Token_impl_order_1.l0
   repeat' first
   | (with_reducible exact ih0 _ _ _ _)
   | (with_reducible exact LeO.refl _)
   | (with_reducible exact LeO.none _)
   | (with_reducible refine LeO.ite ?_ ?_)
   | (with_reducible refine LeO.bind ?_ (fun _=>?_))
   | exact ih0 _ _ _ _
   | exact LeO.none _
   | refine LeO.ite ?_ ?_
   | refine LeO.bind ?_ (fun _=>?_)
theorem slices_IndexFunc_impl_Token_impl_Token_impl_order_1.mono:∀ a0 a1 k,LeO (slices_IndexFunc_impl_Token_impl_Token_impl_order_1.f k a0 a1) (slices_IndexFunc_impl_Token_impl_Token_impl_order_1.f (k+1) a0 a1):=by
 intro a0 a1 k
 have ih0:=slices_IndexFunc_impl_Token_impl_Token_impl_order_1.mono_l k
 unfold slices_IndexFunc_impl_Token_impl_Token_impl_order_1.f
 repeat' first
   | (with_reducible exact ih0 _ _ _ _)
   | (with_reducible exact LeO.refl _)
   | (with_reducible exact LeO.none _)
   | (with_reducible refine LeO.ite ?_ ?_)
   | (with_reducible refine LeO.bind ?_ (fun _=>?_))
   | exact ih0 _ _ _ _
   | exact LeO.none _
   | refine LeO.ite ?_ ?_
   | refine LeO.bind ?_ (fun _=>?_)
set_option maxHeartbeats 8000000 in
set_option maxRecDepth 100000 in
theorem slices_IndexFunc_impl_Token_impl_Token_impl_order_1.calls (k:Nat) (A0:Option Addr) (c0:Nat) (l0:List (S77)) (gb1:Nat) (a1_0:Int) (r:Int) (w:World) (hr0:Kd.C k77 w A0 l0.length l0) (hc0:l0.length≤c0) (hk1:w.heap[gb1]? = some (.cells #[.int .i64 a1_0] 2 (0,0))) (h:slices_IndexFunc_impl_Token_impl_Token_impl_order_1.f k l0 a1_0=some r) :
  Calls Tryd.prog 92 #[.slice A0 l0.length c0,.func (.func 93) #[] #[.pointer (some ⟨gb1,0,none⟩)]] w fun e w'=>e = .returned (.int .i64 r)∧Below w.heap.size w w':=by
 have hu77:=Tryd.underlying77
 have HR0:=Aside0.mk hr0
 have HC0:=Aside0.mk hc0
 clear hr0 hc0
 have BK61:=Aside0.mk hk1
 clear hk1
 have HB:=Aside0.mk (Below.refl w.heap.size w)
 have H:(slices_IndexFunc_impl_Token_impl_Token_impl_order_1.l0 k l0 (l0.length:Int) 0 a1_0)=some r:=h
 clear h
 have H':=Aside0.mk H
 clear H
 go_enter Tryd.func92,Tryd.ntmps92
 go_wp2
 go_loopg [8] k (fun kq v8 w'=>∃ (x8_1:Int),v8 = .int .i64 x8_1∧Aside0 (slices_IndexFunc_impl_Token_impl_Token_impl_order_1.l0 kq l0 (l0.length:Int) x8_1 a1_0=some r)∧Aside0 (kq≤k)∧Aside0 (w'.heap[gb1]? = some (.cells #[.int .i64 a1_0] 2 (0,0)))∧Aside0 (Below w.heap.size w w'))
 case atStart=>exact ⟨(0),(z2_),H',⟨Nat.le_refl _⟩,⟨z3_ BK61.out⟩,⟨by repeat (first | (with_reducible first | exact HB.out | apply below_alloc | apply pw_below_drewN | apply below_drew1 | refine below_set ?_ GE61.out) | exact HB.out)⟩⟩
 case round =>
  clear H'
  try clear p2
  obtain ⟨x8_1,rfl,HA,HK1,BK61,HB⟩:=hrel
  cases gk with
  | zero=>exact absurd HA.out (by simp [slices_IndexFunc_impl_Token_impl_Token_impl_order_1.l0])
  | succ k1 =>
   have H:=HA.out
   clear HA
   simp only [slices_IndexFunc_impl_Token_impl_Token_impl_order_1.l0] at H
   by_cases c3:x8_1<(l0.length:Int)
   ·rw [if_pos c3] at H
    have c3b0:decide (x8_1<(l0.length:Int))=true:=decide_eq_true c3
    clear c3
    by_cases c4:0≤x8_1
    ·rw [if_pos c4] at H
     have c4b0:decide (0≤x8_1)=true:=decide_eq_true c4
     clear c4
     by_cases c5:x8_1<(l0.length:Int)
     ·rw [if_pos c5] at H
      have c5b0:decide (x8_1<(l0.length:Int))=true:=decide_eq_true c5
      clear c5
      replace H:=Option.bind_eq_some_iff.mp H
      obtain ⟨t469,A60,H⟩:=H
      replace H:(if t469=true then (some x8_1) else (slices_IndexFunc_impl_Token_impl_Token_impl_order_1.l0 k1 l0 (l0.length:Int) (wrap64 (x8_1+1)) a1_0))=some r:=H
      have A6:=Aside0.mk A60
      clear A60
      by_cases c7:t469=true
      ·subst c7
       have H1:(some x8_1)=some r:=by rw [if_pos rfl] at H;exact H
       clear H
       have H:=H1
       clear H1
       obtain rfl:=Option.some.inj H
       have p468:0≤(x8_1:Int):=of_decide_eq_true (z0_)
       have q468:x8_1<(l0.length:Int):=of_decide_eq_true (z0_)
       obtain ⟨ad468,e468,hx468_0,hx468_1⟩:=at_T77 HR0.out x8_1 p468 q468
       cases e468
       replace hx468_0:=(HB.out.cell (World.block_lt_of_cell? w _ hx468_0)).trans hx468_0
       replace hx468_1:=(HB.out.cell (World.block_lt_of_cell? w _ hx468_1)).trans hx468_1
       replace p468:=eq_true p468
       replace q468:=eq_true q468
       go_wp2_with (first | (go_at_call 93;(with_reducible refine (impl_order_1_cap.calls ((rd_T77 l0 x8_1).f0) ((rd_T77 l0 x8_1).f1) gb1 a1_0 true _ ?s1 A6.out).mono ?_);(case s1=>(with_reducible repeat (first | refine blk_drewN ?_ _ | refine blk_drew ?_ | refine blk_alloc ?_ _));exact BK61.out);rintro e w8 ⟨rfl,hb⟩;refine as2_ (blkB_ BK61.out hb) (below_step (by repeat (first | (with_reducible first | exact HB.out | apply below_alloc | apply pw_below_drewN | apply below_drew1 | refine below_set ?_ GE61.out) | exact HB.out)) hb) ?_;clear BK61 HB;intro BK61 HB;(try clear hb)))
       go_ret
       exact ⟨z10_,by repeat (first | (with_reducible first | exact HB.out | apply below_alloc | apply pw_below_drewN | apply below_drew1 | refine below_set ?_ GE61.out) | exact HB.out)⟩
      ·replace c7:=Bool.eq_false_iff.mpr c7
       subst c7
       have H1:(slices_IndexFunc_impl_Token_impl_Token_impl_order_1.l0 k1 l0 (l0.length:Int) (wrap64 (x8_1+1)) a1_0)=some r:=by rw [if_neg (show ¬ (false=true) by decide)] at H;exact H
       clear H
       have H:=H1
       clear H1
       have H':=Aside0.mk H
       clear H
       have p468:0≤(x8_1:Int):=of_decide_eq_true (z0_)
       have q468:x8_1<(l0.length:Int):=of_decide_eq_true (z0_)
       obtain ⟨ad468,e468,hx468_0,hx468_1⟩:=at_T77 HR0.out x8_1 p468 q468
       cases e468
       replace hx468_0:=(HB.out.cell (World.block_lt_of_cell? w _ hx468_0)).trans hx468_0
       replace hx468_1:=(HB.out.cell (World.block_lt_of_cell? w _ hx468_1)).trans hx468_1
       replace p468:=eq_true p468
       replace q468:=eq_true q468
       go_wp2_with (first | (go_at_call 93;(with_reducible refine (impl_order_1_cap.calls ((rd_T77 l0 x8_1).f0) ((rd_T77 l0 x8_1).f1) gb1 a1_0 false _ ?s1 A6.out).mono ?_);(case s1=>(with_reducible repeat (first | refine blk_drewN ?_ _ | refine blk_drew ?_ | refine blk_alloc ?_ _));exact BK61.out);rintro e w9 ⟨rfl,hb⟩;refine as2_ (blkB_ BK61.out hb) (below_step (by repeat (first | (with_reducible first | exact HB.out | apply below_alloc | apply pw_below_drewN | apply below_drew1 | refine below_set ?_ GE61.out) | exact HB.out)) hb) ?_;clear BK61 HB;intro BK61 HB;(try clear hb)))
       go_roundg k1
       case measure=>have:=HK1.out;omega
       case rel=>exact ⟨(wrap64 (x8_1+1)),(z2_),H',⟨by have:=HK1.out;omega⟩,⟨z3_ BK61.out⟩,⟨by repeat (first | (with_reducible first | exact HB.out | apply below_alloc | apply pw_below_drewN | apply below_drew1 | refine below_set ?_ GE61.out) | exact HB.out)⟩⟩
     ·rw [if_neg c5] at H
      exact absurd H (by simp)
    ·rw [if_neg c4] at H
     exact absurd H (by simp)
   ·rw [if_neg c3] at H
    have c3b0:decide (x8_1<(l0.length:Int))=false:=decide_eq_false c3
    clear c3
    obtain rfl:=Option.some.inj H
    go_wp2
    go_ret
    exact ⟨z10_,by repeat (first | (with_reducible first | exact HB.out | apply below_alloc | apply pw_below_drewN | apply below_drew1 | refine below_set ?_ GE61.out) | exact HB.out)⟩


/-! ### impl_order: function 56 -/
mutual
def impl_order.j0:Nat→Int→Int→List (S77)→Option (List Int)
 | 0,_,_,_=>none
 | k+1,x6,x471000,x471001=>impl_order.l0 k x6 ([]:List Int) (x471001.length:Int) 0 x471000 x471001
def impl_order.l0:Nat→Int→List Int→Int→Int→Int→List (S77)→Option (List Int)
 | 0,_,_,_,_,_,_=>none
 | k+1,x6,x7,x20,x21,x471000,x471001=>if x21<x20 then (if (x471001.length:Int)=0 then (none) else (if 0≤(Int.tmod (wrap64 (x6+x21)) (x471001.length:Int)) then (if (Int.tmod (wrap64 (x6+x21)) (x471001.length:Int))<(x471001.length:Int) then ((slices_Contains_int64_int64.f k x7 ((rd_T77 x471001 (Int.tmod (wrap64 (x6+x21)) (x471001.length:Int))).f1)).bind fun t475=>(if t475=true then (impl_order.l0 k x6 x7 x20 (wrap64 (x21+1)) x471000 x471001) else (if x7.length<17592186044416 then (impl_order.l0 k x6 (x7 ++ [(rd_T77 x471001 (Int.tmod (wrap64 (x6+x21)) (x471001.length:Int))).f1]) x20 (wrap64 (x21+1)) x471000 x471001) else (none)))) else (none)) else (none))) else (some x7)
end
def impl_order.f (k:Nat) (a0_0:Int) (l0_1:List (S77)) (a1:ByteArray):Option (List Int):=(impl_fnv.f k a1).bind fun t471=>((slices_IndexFunc_impl_Token_impl_Token_impl_order_1.f k l0_1 t471).bind fun t473=>(if t473<0 then (impl_order.j0 k 0 a0_0 l0_1) else (impl_order.j0 k t473 a0_0 l0_1)))
theorem impl_order.mono_l:∀ k,(∀ y0 y1 y2,LeO (impl_order.j0 k y0 y1 y2) (impl_order.j0 (k+1) y0 y1 y2))∧(∀ y0 y1 y2 y3 y4 y5,LeO (impl_order.l0 k y0 y1 y2 y3 y4 y5) (impl_order.l0 (k+1) y0 y1 y2 y3 y4 y5))
 | 0=>⟨fun _ _ _ r h=>by simp [impl_order.j0] at h,fun _ _ _ _ _ _ r h=>by simp [impl_order.l0] at h⟩
 | k+1=>by
  obtain ⟨ih0,ih1⟩:=impl_order.mono_l k
  refine ⟨?_,?_⟩
  ·intro y0 y1 y2
   unfold impl_order.j0
   repeat' first
   | (with_reducible exact ih0 _ _ _)
   | (with_reducible exact ih1 _ _ _ _ _ _)
   | (with_reducible exact impl_fnv.mono _ _)
   | (with_reducible exact slices_Contains_int64_int64.mono _ _ _)
   | (with_reducible exact slices_IndexFunc_impl_Token_impl_Token_impl_order_1.mono _ _ _)
   | (with_reducible exact LeO.refl _)
   | (with_reducible exact LeO.none _)
   | (with_reducible refine LeO.ite ?_ ?_)
   | (with_reducible refine LeO.bind ?_ (fun _=>?_))
   | exact ih0 _ _ _
   | exact ih1 _ _ _ _ _ _
   | exact impl_fnv.mono _ _
   | exact slices_Contains_int64_int64.mono _ _ _
   | exact slices_IndexFunc_impl_Token_impl_Token_impl_order_1.mono _ _ _
   | exact LeO.none _
   | refine LeO.ite ?_ ?_
   | refine LeO.bind ?_ (fun _=>?_)
  ·intro y0 y1 y2 y3 y4 y5
   unfold impl_order.l0
   repeat' first
   | (with_reducible exact ih0 _ _ _)
   | (with_reducible exact ih1 _ _ _ _ _ _)
   | (with_reducible exact impl_fnv.mono _ _)
   | (with_reducible exact slices_Contains_int64_int64.mono _ _ _)
   | (with_reducible exact slices_IndexFunc_impl_Token_impl_Token_impl_order_1.mono _ _ _)
   | (with_reducible exact LeO.refl _)
   | (with_reducible exact LeO.none _)
   | (with_reducible refine LeO.ite ?_ ?_)
   | (with_reducible refine LeO.bind ?_ (fun _=>?_))
   | exact ih0 _ _ _
   | exact ih1 _ _ _ _ _ _
   | exact impl_fnv.mono _ _
   | exact slices_Contains_int64_int64.mono _ _ _
   | exact slices_IndexFunc_impl_Token_impl_Token_impl_order_1.mono _ _ _
   | exact LeO.none _
   | refine LeO.ite ?_ ?_
   | refine LeO.bind ?_ (fun _=>?_)
theorem impl_order.mono:∀ a0 a1 a2 k,LeO (impl_order.f k a0 a1 a2) (impl_order.f (k+1) a0 a1 a2):=by
 intro a0 a1 a2 k
 obtain ⟨ih0,ih1⟩:=impl_order.mono_l k
 unfold impl_order.f
 repeat' first
   | (with_reducible exact ih0 _ _ _)
   | (with_reducible exact ih1 _ _ _ _ _ _)
   | (with_reducible exact impl_fnv.mono _ _)
   | (with_reducible exact slices_Contains_int64_int64.mono _ _ _)
   | (with_reducible exact slices_IndexFunc_impl_Token_impl_Token_impl_order_1.mono _ _ _)
   | (with_reducible exact LeO.refl _)
   | (with_reducible exact LeO.none _)
   | (with_reducible refine LeO.ite ?_ ?_)
   | (with_reducible refine LeO.bind ?_ (fun _=>?_))
   | exact ih0 _ _ _
   | exact ih1 _ _ _ _ _ _
   | exact impl_fnv.mono _ _
   | exact slices_Contains_int64_int64.mono _ _ _
   | exact slices_IndexFunc_impl_Token_impl_Token_impl_order_1.mono _ _ _
   | exact LeO.none _
   | refine LeO.ite ?_ ?_
   | refine LeO.bind ?_ (fun _=>?_)
set_option maxHeartbeats 8000000 in
set_option maxRecDepth 100000 in
theorem impl_order.calls (k:Nat) (a0_0:Int) (A0_1:Option Addr) (c0_1:Nat) (l0_1:List (S77)) (a1:ByteArray) (r:List Int) (w:World) (hr0_1:Kd.C k77 w A0_1 l0_1.length l0_1) (hc0_1:l0_1.length≤c0_1) (h:impl_order.f k a0_0 l0_1 a1=some r) :
  Calls Tryd.prog 56 #[.agg #[.int .i64 a0_0,.slice A0_1 l0_1.length c0_1],.string a1] w fun e w'=>∃ v0_:Value,e = .returned (v0_)∧Kd.R (Kd.int .i64) 2 w' w.heap.size (fun _=>True) v0_ r∧Below w.heap.size w w':=by
 have hu24:=Tryd.underlying24
 have HR0_1:=Aside0.mk hr0_1
 have HC0_1:=Aside0.mk hc0_1
 clear hr0_1 hc0_1
 have HB:=Aside0.mk (Below.refl w.heap.size w)
 have H:((impl_fnv.f k a1).bind fun t471=>((slices_IndexFunc_impl_Token_impl_Token_impl_order_1.f k l0_1 t471).bind fun t473=>(if t473<0 then (impl_order.j0 k 0 a0_0 l0_1) else (impl_order.j0 k t473 a0_0 l0_1))))=some r:=h
 clear h
 replace H:=Option.bind_eq_some_iff.mp H
 obtain ⟨t471,A30,H⟩:=H
 replace H:((slices_IndexFunc_impl_Token_impl_Token_impl_order_1.f k l0_1 t471).bind fun t473=>(if t473<0 then (impl_order.j0 k 0 a0_0 l0_1) else (impl_order.j0 k t473 a0_0 l0_1)))=some r:=H
 have A3:=Aside0.mk A30
 clear A30
 replace H:=Option.bind_eq_some_iff.mp H
 obtain ⟨t473,A40,H⟩:=H
 replace H:(if t473<0 then (impl_order.j0 k 0 a0_0 l0_1) else (impl_order.j0 k t473 a0_0 l0_1))=some r:=H
 have A4:=Aside0.mk A40
 clear A40
 have HC5:=Aside0.mk H
 clear H
 go_enter Tryd.func56,Tryd.ntmps56
 go_upto_if 17 with (first | ((with_reducible refine gd_ 2 ?_);refine be_ 2 #[.int .i64 a0_0,.slice A0_1 l0_1.length c0_1] 24 ?_;intro gb470 hg w6 hbox hb;refine as4_ (below_step (z4_ HB.out) hb) (hbox) ((z8_ HB.out:w.heap.size≤gb470)) ((z8_ HB.out:w.heap.size≤gb470)) ?_;clear HB;intro HB BK470 GW470 GE470;clear hb hbox hg) | (go_at_call 75;(with_reducible refine (impl_fnv.calls k a1 t471 _ A3.out).mono ?_);rintro e w' ⟨rfl,⟨nd,rfl⟩⟩;(try first | exact ⟨rfl,_,World.drewN_drewN _ _ _⟩ | exact ⟨rfl,_,Eq.trans (World.drewN_drewN _ _ _) (congrArg (World.drewN _) (Nat.add_assoc _ _ _))⟩)) | ((with_reducible refine gd_ 5 ?_);refine be_ 5 #[.int .i64 0] 2 ?_;intro gb472 hg w7 hbox hb;refine as7_ (blkB_ BK470.out hb) (below_step (z7_ HB.out GE470.out) hb) (hbox) ((z11_ HB.out GE470.out:w.heap.size≤gb472)) ((z11_ HB.out GE470.out:w.heap.size≤gb472)) (neL_ BK470.out hg) (neG_ BK470.out hg) ?_;clear BK470 HB;intro BK470 HB BK472 GW472 GE472 NB470_472 NB472_470;clear hb hbox hg;have hnb8:=NB472_470.out;have hnc8:=NB470_472.out;have ⟨hcz9_0,hfz9_0⟩:=cz1_ BK472.out;have ⟨hcz10_0,hcz10_1,hfz10_0,hfz10_1⟩:=cz2_ BK470.out) | (go_at_call 92;(with_reducible refine (slices_IndexFunc_impl_Token_impl_Token_impl_order_1.calls k _ _ l0_1 gb472 t471 t473 _ ?s1 ?s2 ?s3 A4.out).mono ?_);(case s1=>exact Kd.C_below HR0_1.out (z5_ HB.out GE470.out GE472.out));(case s2=>exact HC0_1.out);(case s3=>(with_reducible repeat (first | refine blk_drewN ?_ _ | refine blk_drew ?_ | refine blk_alloc ?_ _));refine blk_put (cs:=#[.int .i64 0]) ?_ 0 _ rfl;(with_reducible repeat (first | refine blk_drewN ?_ _ | refine blk_drew ?_ | refine blk_alloc ?_ _));exact BK472.out);rintro e w11 ⟨rfl,hb⟩;refine as3_ (blk_below (g:=gb470) (o:=.cells #[.int .i64 a0_0,.slice A0_1 l0_1.length c0_1] 24 (0,0)) (z28_ NB470_472.out BK470.out) hb) (blk_below (g:=gb472) (o:=.cells #[.int .i64 t471] 2 (0,0)) (z42_ BK472.out) hb) (below_step (z5_ HB.out GE470.out GE472.out) hb) ?_;clear BK470 BK472 HB;intro BK470 BK472 HB;(try clear hb)))
 repeat (go_quiet (first | ((with_reducible refine gd_ 2 ?_);refine be_ 2 #[.int .i64 a0_0,.slice A0_1 l0_1.length c0_1] 24 ?_;intro gb470 hg w6 hbox hb;refine as4_ (below_step (z4_ HB.out) hb) (hbox) ((z8_ HB.out:w.heap.size≤gb470)) ((z8_ HB.out:w.heap.size≤gb470)) ?_;clear HB;intro HB BK470 GW470 GE470;clear hb hbox hg) | (go_at_call 75;(with_reducible refine (impl_fnv.calls k a1 t471 _ A3.out).mono ?_);rintro e w' ⟨rfl,⟨nd,rfl⟩⟩;(try first | exact ⟨rfl,_,World.drewN_drewN _ _ _⟩ | exact ⟨rfl,_,Eq.trans (World.drewN_drewN _ _ _) (congrArg (World.drewN _) (Nat.add_assoc _ _ _))⟩)) | ((with_reducible refine gd_ 5 ?_);refine be_ 5 #[.int .i64 0] 2 ?_;intro gb472 hg w7 hbox hb;refine as7_ (blkB_ BK470.out hb) (below_step (z7_ HB.out GE470.out) hb) (hbox) ((z11_ HB.out GE470.out:w.heap.size≤gb472)) ((z11_ HB.out GE470.out:w.heap.size≤gb472)) (neL_ BK470.out hg) (neG_ BK470.out hg) ?_;clear BK470 HB;intro BK470 HB BK472 GW472 GE472 NB470_472 NB472_470;clear hb hbox hg;have hnb8:=NB472_470.out;have hnc8:=NB470_472.out;have ⟨hcz9_0,hfz9_0⟩:=cz1_ BK472.out;have ⟨hcz10_0,hcz10_1,hfz10_0,hfz10_1⟩:=cz2_ BK470.out) | (go_at_call 92;(with_reducible refine (slices_IndexFunc_impl_Token_impl_Token_impl_order_1.calls k _ _ l0_1 gb472 t471 t473 _ ?s1 ?s2 ?s3 A4.out).mono ?_);(case s1=>exact Kd.C_below HR0_1.out (z5_ HB.out GE470.out GE472.out));(case s2=>exact HC0_1.out);(case s3=>(with_reducible repeat (first | refine blk_drewN ?_ _ | refine blk_drew ?_ | refine blk_alloc ?_ _));refine blk_put (cs:=#[.int .i64 0]) ?_ 0 _ rfl;(with_reducible repeat (first | refine blk_drewN ?_ _ | refine blk_drew ?_ | refine blk_alloc ?_ _));exact BK472.out);rintro e w11 ⟨rfl,hb⟩;refine as3_ (blk_below (g:=gb470) (o:=.cells #[.int .i64 a0_0,.slice A0_1 l0_1.length c0_1] 24 (0,0)) (z28_ NB470_472.out BK470.out) hb) (blk_below (g:=gb472) (o:=.cells #[.int .i64 t471] 2 (0,0)) (z42_ BK472.out) hb) (below_step (z5_ HB.out GE470.out GE472.out) hb) ?_;clear BK470 BK472 HB;intro BK470 BK472 HB;(try clear hb)));go_upto_if 17 with (first | ((with_reducible refine gd_ 2 ?_);refine be_ 2 #[.int .i64 a0_0,.slice A0_1 l0_1.length c0_1] 24 ?_;intro gb470 hg w6 hbox hb;refine as4_ (below_step (z4_ HB.out) hb) (hbox) ((z8_ HB.out:w.heap.size≤gb470)) ((z8_ HB.out:w.heap.size≤gb470)) ?_;clear HB;intro HB BK470 GW470 GE470;clear hb hbox hg) | (go_at_call 75;(with_reducible refine (impl_fnv.calls k a1 t471 _ A3.out).mono ?_);rintro e w' ⟨rfl,⟨nd,rfl⟩⟩;(try first | exact ⟨rfl,_,World.drewN_drewN _ _ _⟩ | exact ⟨rfl,_,Eq.trans (World.drewN_drewN _ _ _) (congrArg (World.drewN _) (Nat.add_assoc _ _ _))⟩)) | ((with_reducible refine gd_ 5 ?_);refine be_ 5 #[.int .i64 0] 2 ?_;intro gb472 hg w7 hbox hb;refine as7_ (blkB_ BK470.out hb) (below_step (z7_ HB.out GE470.out) hb) (hbox) ((z11_ HB.out GE470.out:w.heap.size≤gb472)) ((z11_ HB.out GE470.out:w.heap.size≤gb472)) (neL_ BK470.out hg) (neG_ BK470.out hg) ?_;clear BK470 HB;intro BK470 HB BK472 GW472 GE472 NB470_472 NB472_470;clear hb hbox hg;have hnb8:=NB472_470.out;have hnc8:=NB470_472.out;have ⟨hcz9_0,hfz9_0⟩:=cz1_ BK472.out;have ⟨hcz10_0,hcz10_1,hfz10_0,hfz10_1⟩:=cz2_ BK470.out) | (go_at_call 92;(with_reducible refine (slices_IndexFunc_impl_Token_impl_Token_impl_order_1.calls k _ _ l0_1 gb472 t471 t473 _ ?s1 ?s2 ?s3 A4.out).mono ?_);(case s1=>exact Kd.C_below HR0_1.out (z5_ HB.out GE470.out GE472.out));(case s2=>exact HC0_1.out);(case s3=>(with_reducible repeat (first | refine blk_drewN ?_ _ | refine blk_drew ?_ | refine blk_alloc ?_ _));refine blk_put (cs:=#[.int .i64 0]) ?_ 0 _ rfl;(with_reducible repeat (first | refine blk_drewN ?_ _ | refine blk_drew ?_ | refine blk_alloc ?_ _));exact BK472.out);rintro e w11 ⟨rfl,hb⟩;refine as3_ (blk_below (g:=gb470) (o:=.cells #[.int .i64 a0_0,.slice A0_1 l0_1.length c0_1] 24 (0,0)) (z28_ NB470_472.out BK470.out) hb) (blk_below (g:=gb472) (o:=.cells #[.int .i64 t471] 2 (0,0)) (z42_ BK472.out) hb) (below_step (z5_ HB.out GE470.out GE472.out) hb) ?_;clear BK470 BK472 HB;intro BK470 BK472 HB;(try clear hb))))
 (try simp only [Act.put,sa_,s0_,ss_])
 go_cut [6] (fun v6 wc=>∃ (kq:Nat) (x6_4:Int),v6 = .int .i64 x6_4∧Aside0 (impl_order.j0 kq x6_4 a0_0 l0_1=some r)∧Aside0 (kq≤k)∧Aside0 (wc.heap[gb470]? = some (.cells #[.int .i64 a0_0,(.slice A0_1 l0_1.length c0_1)] 24 (0,0)))∧Aside0 True∧Aside0 (Below w.heap.size w wc))
 case first =>
  have H:=HC5.out
  clear HC5
  by_cases c12:t473<0
  ·rw [if_pos c12] at H
   have c12b0:decide (t473<0)=true:=decide_eq_true c12
   clear c12
   (first | rw [c12b0] | (simp only [i64_w,i32_w];rw [c12b0]) | skip)
   have H':=Aside0.mk H
   clear H
   go_wp2
   repeat (go_quiet (fail);try go_wp2)
   go_meet
   case rel=>exact ⟨_,(0),(z2_),H',⟨by first | omega | exact Nat.le_refl _⟩,⟨z3_ BK470.out⟩,⟨trivial⟩,⟨z5_ HB.out GE470.out GE472.out⟩⟩
  ·rw [if_neg c12] at H
   have c12b0:decide (t473<0)=false:=decide_eq_false c12
   clear c12
   (first | rw [c12b0] | (simp only [i64_w,i32_w];rw [c12b0]) | skip)
   have H':=Aside0.mk H
   clear H
   go_wp2
   repeat (go_quiet (fail);try go_wp2)
   go_meet
   case rel=>exact ⟨_,(t473),(z2_),H',⟨by first | omega | exact Nat.le_refl _⟩,⟨z3_ BK470.out⟩,⟨trivial⟩,⟨z5_ HB.out GE470.out GE472.out⟩⟩
 case rest =>
  clear HC5
  try clear c1
  try clear p2
  try clear c5
  try clear c8
  try clear c12
  try clear c12b0
  try clear hcz10_0
  try clear hcz10_1
  try clear hcz9_0
  try clear hfz10_0
  try clear hfz10_1
  try clear hfz9_0
  obtain ⟨kq,x6_4,rfl,HA,HJ4,BK470,BK472,HB⟩:=hcut
  cases kq with
  | zero=>exact absurd HA.out (by simp [impl_order.j0])
  | succ kj4 =>
   have H:=HA.out
   clear HA
   simp only [impl_order.j0] at H
   have H':=Aside0.mk H
   clear H
   have hnb13:=NB470_472.out
   have hnc13:=NB472_470.out
   have ⟨hcz14_0,hcz14_1,hfz14_0,hfz14_1⟩:=cz2_ BK470.out
   go_wp2
   repeat (go_quiet (fail);try go_wp2)
   go_loopg [7,21] kj4 (fun kq v7 v21 w'=>∃ (x7_2:List Int) (x21_2:Int),v21 = .int .i64 x21_2∧Aside0 (impl_order.l0 kq x6_4 x7_2 (l0_1.length:Int) x21_2 a0_0 l0_1=some r)∧Aside0 (kq≤kj4)∧Aside0 (Kd.R (Kd.int .i64) 2 w' w.heap.size (fun _=>True) v7 x7_2)∧Aside0 (w'.heap[gb470]? = some (.cells #[.int .i64 a0_0,(.slice A0_1 l0_1.length c0_1)] 24 (0,0)))∧Aside0 True∧Aside0 (Below w.heap.size w w'))
   case atStart=>exact ⟨(([]:List Int)),(0),(z2_),H',⟨Nat.le_refl _⟩,⟨z37_⟩,⟨z3_ BK470.out⟩,⟨trivial⟩,⟨z5_ HB.out GE470.out GE472.out⟩⟩
   case round =>
    clear H'
    try clear c1
    try clear p2
    try clear c5
    try clear c8
    try clear c12
    try clear c12b0
    try clear c13
    try clear hcz10_0
    try clear hcz10_1
    try clear hcz14_0
    try clear hcz14_1
    try clear hcz9_0
    try clear hfz10_0
    try clear hfz10_1
    try clear hfz14_0
    try clear hfz14_1
    try clear hfz9_0
    try clear p2
    obtain ⟨x7_2,x21_2,rfl,HA,HK2,HO_7,BK470,BK472,HB⟩:=hrel
    cases gk with
    | zero=>exact absurd HA.out (by simp [impl_order.l0])
    | succ k2 =>
     have H:=HA.out
     clear HA
     simp only [impl_order.l0] at H
     by_cases c15:x21_2<(l0_1.length:Int)
     ·rw [if_pos c15] at H
      have c15b0:decide (x21_2<(l0_1.length:Int))=true:=decide_eq_true c15
      clear c15
      by_cases c16:(l0_1.length:Int)=0
      ·rw [if_pos c16] at H
       exact absurd H (by simp)
      ·rw [if_neg c16] at H
       have c16b0:((l0_1.length:Int) == 0)=false:=beq_eq_false_iff_ne.mpr c16
       have c16b1:((l0_1.length:Int) != 0)=true:=bne_iff_ne.mpr c16
       have c16b2:¬ (l0_1=[]):=fun h_=>c16 (by rw [h_];rfl)
       obtain ⟨ji17,hji17⟩:∃ j_:Int,(Int.tmod (wrap64 (x6_4+x21_2)) (l0_1.length:Int))=j_:=⟨_,rfl⟩
       replace H:(if 0≤(ji17) then (if (ji17)<(l0_1.length:Int) then ((slices_Contains_int64_int64.f k2 x7_2 ((rd_T77 l0_1 (ji17)).f1)).bind fun t475=>(if t475=true then (impl_order.l0 k2 x6_4 x7_2 (l0_1.length:Int) (wrap64 (x21_2+1)) a0_0 l0_1) else (if x7_2.length<17592186044416 then (impl_order.l0 k2 x6_4 (x7_2 ++ [(rd_T77 l0_1 (ji17)).f1]) (l0_1.length:Int) (wrap64 (x21_2+1)) a0_0 l0_1) else (none)))) else (none)) else (none))=some r:=by first | (rw [hji17] at H;exact H) | (simp only [hji17] at H ⊢;exact H)
       by_cases c18:0≤(ji17)
       ·rw [if_pos c18] at H
        have c18b0:decide (0≤(ji17))=true:=decide_eq_true c18
        clear c18
        by_cases c19:(ji17)<(l0_1.length:Int)
        ·rw [if_pos c19] at H
         have c19b0:decide ((ji17)<(l0_1.length:Int))=true:=decide_eq_true c19
         clear c19
         replace H:=Option.bind_eq_some_iff.mp H
         obtain ⟨t475,A200,H⟩:=H
         replace H:(if t475=true then (impl_order.l0 k2 x6_4 x7_2 (l0_1.length:Int) (wrap64 (x21_2+1)) a0_0 l0_1) else (if x7_2.length<17592186044416 then (impl_order.l0 k2 x6_4 (x7_2 ++ [(rd_T77 l0_1 (ji17)).f1]) (l0_1.length:Int) (wrap64 (x21_2+1)) a0_0 l0_1) else (none)))=some r:=H
         have A20:=Aside0.mk A200
         clear A200
         by_cases c21:t475=true
         ·subst c21
          have H1:(impl_order.l0 k2 x6_4 x7_2 (l0_1.length:Int) (wrap64 (x21_2+1)) a0_0 l0_1)=some r:=by rw [if_pos rfl] at H;exact H
          clear H
          have H:=H1
          clear H1
          have H':=Aside0.mk H
          clear H
          have hnb22:=NB470_472.out
          have hnc22:=NB472_470.out
          have ⟨hcz23_0,hcz23_1,hfz23_0,hfz23_1⟩:=cz2_ BK470.out
          have p474:0≤((ji17):Int):=of_decide_eq_true (z0_)
          have q474:(ji17)<(l0_1.length:Int):=of_decide_eq_true (z0_)
          obtain ⟨ad474,e474,hx474_0,hx474_1⟩:=at_T77 HR0_1.out (ji17) p474 q474
          cases e474
          replace hx474_0:=(HB.out.cell (World.block_lt_of_cell? w _ hx474_0)).trans hx474_0
          replace hx474_1:=(HB.out.cell (World.block_lt_of_cell? w _ hx474_1)).trans hx474_1
          replace p474:=eq_true p474
          replace q474:=eq_true q474
          obtain ⟨Ao24,co24,eo24⟩:=Kd.R_slice HO_7.out
          subst eo24
          go_wp2_with (first | (go_at_call 89;(with_reducible refine (slices_Contains_int64_int64.calls k2 _ _ x7_2 ((rd_T77 l0_1 (ji17)).f1) true _ ?s1 ?s2 A20.out).mono ?_);(case s1=>repeat (first | exact (Kd.R_reads' HO_7.out).2.2 | (with_reducible refine Kd.C_alloc ?_ _) | (with_reducible refine Kd.C_drewN ?_ _) | (with_reducible refine Kd.C_drew ?_)));(case s2=>exact (Kd.R_reads' HO_7.out).2.1);rintro e w' ⟨rfl,⟨nd,rfl⟩⟩;(try first | exact ⟨rfl,_,World.drewN_drewN _ _ _⟩ | exact ⟨rfl,_,Eq.trans (World.drewN_drewN _ _ _) (congrArg (World.drewN _) (Nat.add_assoc _ _ _))⟩)))
          repeat (go_quiet (first | (go_at_call 89;(with_reducible refine (slices_Contains_int64_int64.calls k2 _ _ x7_2 ((rd_T77 l0_1 (ji17)).f1) true _ ?s1 ?s2 A20.out).mono ?_);(case s1=>repeat (first | exact (Kd.R_reads' HO_7.out).2.2 | (with_reducible refine Kd.C_alloc ?_ _) | (with_reducible refine Kd.C_drewN ?_ _) | (with_reducible refine Kd.C_drew ?_)));(case s2=>exact (Kd.R_reads' HO_7.out).2.1);rintro e w' ⟨rfl,⟨nd,rfl⟩⟩;(try first | exact ⟨rfl,_,World.drewN_drewN _ _ _⟩ | exact ⟨rfl,_,Eq.trans (World.drewN_drewN _ _ _) (congrArg (World.drewN _) (Nat.add_assoc _ _ _))⟩)));try go_wp2_with (first | (go_at_call 89;(with_reducible refine (slices_Contains_int64_int64.calls k2 _ _ x7_2 ((rd_T77 l0_1 (ji17)).f1) true _ ?s1 ?s2 A20.out).mono ?_);(case s1=>repeat (first | exact (Kd.R_reads' HO_7.out).2.2 | (with_reducible refine Kd.C_alloc ?_ _) | (with_reducible refine Kd.C_drewN ?_ _) | (with_reducible refine Kd.C_drew ?_)));(case s2=>exact (Kd.R_reads' HO_7.out).2.1);rintro e w' ⟨rfl,⟨nd,rfl⟩⟩;(try first | exact ⟨rfl,_,World.drewN_drewN _ _ _⟩ | exact ⟨rfl,_,Eq.trans (World.drewN_drewN _ _ _) (congrArg (World.drewN _) (Nat.add_assoc _ _ _))⟩))))
          go_roundg k2
          case measure=>have:=HJ4.out;have:=HK2.out;omega
          case rel=>exact ⟨(x7_2),(wrap64 (x21_2+1)),(z2_),H',⟨z13_ HJ4.out HK2.out⟩,⟨z1_ HO_7.out⟩,⟨z3_ BK470.out⟩,⟨trivial⟩,⟨z5_ HB.out GE470.out GE472.out⟩⟩
         ·replace c21:=Bool.eq_false_iff.mpr c21
          subst c21
          have H1:(if x7_2.length<17592186044416 then (impl_order.l0 k2 x6_4 (x7_2 ++ [(rd_T77 l0_1 (ji17)).f1]) (l0_1.length:Int) (wrap64 (x21_2+1)) a0_0 l0_1) else (none))=some r:=by rw [if_neg (show ¬ (false=true) by decide)] at H;exact H
          clear H
          have H:=H1
          clear H1
          by_cases c25:x7_2.length<17592186044416
          ·rw [if_pos c25] at H
           have LMc25:=Aside0.mk c25
           clear c25
           obtain ⟨y476,hy476⟩:∃ y_:List Int,y_=(x7_2 ++ [(rd_T77 l0_1 (ji17)).f1]):=⟨_,rfl⟩
           replace H:(impl_order.l0 k2 x6_4 y476 (l0_1.length:Int) (wrap64 (x21_2+1)) a0_0 l0_1)=some r:=by first | (rw [hy476];with_reducible exact H) | (have H2_:=(Option.bind_some _ _).symm.trans H;rw [hy476];with_reducible exact H2_) | (have H2_:=(Option.bind_some _ _).symm.trans H;with_reducible exact H2_) | with_reducible exact H | (rw [hy476];exact H) | exact H
           have Ny476:=Aside0.mk hy476
           clear hy476
           have H':=Aside0.mk H
           clear H
           have hnb26:=NB470_472.out
           have hnc26:=NB472_470.out
           have ⟨hcz27_0,hcz27_1,hfz27_0,hfz27_1⟩:=cz2_ BK470.out
           have p474:0≤((ji17):Int):=of_decide_eq_true (z0_)
           have q474:(ji17)<(l0_1.length:Int):=of_decide_eq_true (z0_)
           obtain ⟨ad474,e474,hx474_0,hx474_1⟩:=at_T77 HR0_1.out (ji17) p474 q474
           cases e474
           replace hx474_0:=(HB.out.cell (World.block_lt_of_cell? w _ hx474_0)).trans hx474_0
           replace hx474_1:=(HB.out.cell (World.block_lt_of_cell? w _ hx474_1)).trans hx474_1
           replace p474:=eq_true p474
           replace q474:=eq_true q474
           obtain ⟨Ao28,co28,eo28⟩:=Kd.R_slice HO_7.out
           subst eo28
           go_wp2_with (first | (go_at_call 89;(with_reducible refine (slices_Contains_int64_int64.calls k2 _ _ x7_2 ((rd_T77 l0_1 (ji17)).f1) false _ ?s1 ?s2 A20.out).mono ?_);(case s1=>repeat (first | exact (Kd.R_reads' HO_7.out).2.2 | (with_reducible refine Kd.C_alloc ?_ _) | (with_reducible refine Kd.C_drewN ?_ _) | (with_reducible refine Kd.C_drew ?_)));(case s2=>exact (Kd.R_reads' HO_7.out).2.1);rintro e w' ⟨rfl,⟨nd,rfl⟩⟩;(try first | exact ⟨rfl,_,World.drewN_drewN _ _ _⟩ | exact ⟨rfl,_,Eq.trans (World.drewN_drewN _ _ _) (congrArg (World.drewN _) (Nat.add_assoc _ _ _))⟩)) | ((with_reducible refine gate_builtin (b:=.append) (xs:=#[.tmp 40,.tmp 42]) rfl ?_);at_builtin;refine Kd.R_append (Kd.int .i64) (w0:=w) w.heap.size rfl (.tmp 40) (.tmp 42) 37 2 (.int .i64 0) 8 rfl Tryd.underlying37 info2 rfl (by decide) (by omega) (.slice Ao28 x7_2.length co28) x7_2 ((rd_T77 l0_1 (ji17)).f1) [.int .i64 ((rd_T77 l0_1 (ji17)).f1)] (fun _=>True) (fun _=>False) rfl rfl ?aP (fun _ hk=>hk.elim) ?aF ?aO ?aB ?aS ?aL ?_;(case aP=>exact rfl);(case aB=>exact (z5_ HB.out GE470.out GE472.out));(case aF=>exact (fun _ _=>trivial));(case aO=>exact (z1_ HO_7.out));(case aS=>exact (below_size (z5_ HB.out GE470.out GE472.out)));(case aL=>have:=LMc25.out;omega);intro v477 w29 ho hb hg hat;rw [← Ny476.out] at ho;have n0_:=Aside0.mk (blk_grown (g:=gb470) (o:=.cells #[.int .i64 a0_0,.slice (some ad474) l0_1.length c0_1] 24 (0,0)) (z3_ BK470.out) hg (Kd.R_ne HO_7.out BK470.out (by decide)));have n1_:=Aside0.mk trivial;have n2_:=Aside0.mk (hb);have n3_:=Aside0.mk (ho);clear BK470;clear BK472;clear HB;clear HO_7;have BK470:=n0_;have BK472:=n1_;have HB:=n2_;have HO478:=n3_;clear n0_ n1_ n2_ n3_;clear ho hb hg hat))
           repeat (go_quiet (first | (go_at_call 89;(with_reducible refine (slices_Contains_int64_int64.calls k2 _ _ x7_2 ((rd_T77 l0_1 (ji17)).f1) false _ ?s1 ?s2 A20.out).mono ?_);(case s1=>repeat (first | exact (Kd.R_reads' HO_7.out).2.2 | (with_reducible refine Kd.C_alloc ?_ _) | (with_reducible refine Kd.C_drewN ?_ _) | (with_reducible refine Kd.C_drew ?_)));(case s2=>exact (Kd.R_reads' HO_7.out).2.1);rintro e w' ⟨rfl,⟨nd,rfl⟩⟩;(try first | exact ⟨rfl,_,World.drewN_drewN _ _ _⟩ | exact ⟨rfl,_,Eq.trans (World.drewN_drewN _ _ _) (congrArg (World.drewN _) (Nat.add_assoc _ _ _))⟩)) | ((with_reducible refine gate_builtin (b:=.append) (xs:=#[.tmp 40,.tmp 42]) rfl ?_);at_builtin;refine Kd.R_append (Kd.int .i64) (w0:=w) w.heap.size rfl (.tmp 40) (.tmp 42) 37 2 (.int .i64 0) 8 rfl Tryd.underlying37 info2 rfl (by decide) (by omega) (.slice Ao28 x7_2.length co28) x7_2 ((rd_T77 l0_1 (ji17)).f1) [.int .i64 ((rd_T77 l0_1 (ji17)).f1)] (fun _=>True) (fun _=>False) rfl rfl ?aP (fun _ hk=>hk.elim) ?aF ?aO ?aB ?aS ?aL ?_;(case aP=>exact rfl);(case aB=>exact (z5_ HB.out GE470.out GE472.out));(case aF=>exact (fun _ _=>trivial));(case aO=>exact (z1_ HO_7.out));(case aS=>exact (below_size (z5_ HB.out GE470.out GE472.out)));(case aL=>have:=LMc25.out;omega);intro v477 w29 ho hb hg hat;rw [← Ny476.out] at ho;have n0_:=Aside0.mk (blk_grown (g:=gb470) (o:=.cells #[.int .i64 a0_0,.slice (some ad474) l0_1.length c0_1] 24 (0,0)) (z3_ BK470.out) hg (Kd.R_ne HO_7.out BK470.out (by decide)));have n1_:=Aside0.mk trivial;have n2_:=Aside0.mk (hb);have n3_:=Aside0.mk (ho);clear BK470;clear BK472;clear HB;clear HO_7;have BK470:=n0_;have BK472:=n1_;have HB:=n2_;have HO478:=n3_;clear n0_ n1_ n2_ n3_;clear ho hb hg hat));try go_wp2_with (first | (go_at_call 89;(with_reducible refine (slices_Contains_int64_int64.calls k2 _ _ x7_2 ((rd_T77 l0_1 (ji17)).f1) false _ ?s1 ?s2 A20.out).mono ?_);(case s1=>repeat (first | exact (Kd.R_reads' HO_7.out).2.2 | (with_reducible refine Kd.C_alloc ?_ _) | (with_reducible refine Kd.C_drewN ?_ _) | (with_reducible refine Kd.C_drew ?_)));(case s2=>exact (Kd.R_reads' HO_7.out).2.1);rintro e w' ⟨rfl,⟨nd,rfl⟩⟩;(try first | exact ⟨rfl,_,World.drewN_drewN _ _ _⟩ | exact ⟨rfl,_,Eq.trans (World.drewN_drewN _ _ _) (congrArg (World.drewN _) (Nat.add_assoc _ _ _))⟩)) | ((with_reducible refine gate_builtin (b:=.append) (xs:=#[.tmp 40,.tmp 42]) rfl ?_);at_builtin;refine Kd.R_append (Kd.int .i64) (w0:=w) w.heap.size rfl (.tmp 40) (.tmp 42) 37 2 (.int .i64 0) 8 rfl Tryd.underlying37 info2 rfl (by decide) (by omega) (.slice Ao28 x7_2.length co28) x7_2 ((rd_T77 l0_1 (ji17)).f1) [.int .i64 ((rd_T77 l0_1 (ji17)).f1)] (fun _=>True) (fun _=>False) rfl rfl ?aP (fun _ hk=>hk.elim) ?aF ?aO ?aB ?aS ?aL ?_;(case aP=>exact rfl);(case aB=>exact (z5_ HB.out GE470.out GE472.out));(case aF=>exact (fun _ _=>trivial));(case aO=>exact (z1_ HO_7.out));(case aS=>exact (below_size (z5_ HB.out GE470.out GE472.out)));(case aL=>have:=LMc25.out;omega);intro v477 w29 ho hb hg hat;rw [← Ny476.out] at ho;have n0_:=Aside0.mk (blk_grown (g:=gb470) (o:=.cells #[.int .i64 a0_0,.slice (some ad474) l0_1.length c0_1] 24 (0,0)) (z3_ BK470.out) hg (Kd.R_ne HO_7.out BK470.out (by decide)));have n1_:=Aside0.mk trivial;have n2_:=Aside0.mk (hb);have n3_:=Aside0.mk (ho);clear BK470;clear BK472;clear HB;clear HO_7;have BK470:=n0_;have BK472:=n1_;have HB:=n2_;have HO478:=n3_;clear n0_ n1_ n2_ n3_;clear ho hb hg hat)))
           go_roundg k2
           case measure=>have:=HJ4.out;have:=HK2.out;omega
           case rel=>exact ⟨(y476),(wrap64 (x21_2+1)),(z2_),H',⟨z13_ HJ4.out HK2.out⟩,⟨z1_ HO478.out⟩,⟨z3_ BK470.out⟩,⟨trivial⟩,⟨z5_ HB.out GE470.out GE472.out⟩⟩
          ·rw [if_neg c25] at H
           exact absurd H (by simp)
        ·rw [if_neg c19] at H
         exact absurd H (by simp)
       ·rw [if_neg c18] at H
        exact absurd H (by simp)
     ·rw [if_neg c15] at H
      have c15b0:decide (x21_2<(l0_1.length:Int))=false:=decide_eq_false c15
      clear c15
      obtain rfl:=Option.some.inj H
      go_wp2
      repeat (go_quiet (fail);try go_wp2)
      go_ret
      exact ⟨_,z10_,z1_ HO_7.out,z5_ HB.out GE470.out GE472.out⟩


/-! ### impl_owners: function 85 -/
def impl_owners.f (k:Nat) (a0_0:Int) (l0_1:List (S77)) (a1:ByteArray) (a2:Int):Option (List Int):=(impl_order.f k a0_0 l0_1 a1).bind fun t480=>(if 0≤(mn a2 (t480.length:Int)) then (if (mn a2 (t480.length:Int))≤(t480.length:Int) then (some (t480.take ((mn a2 (t480.length:Int)):Int).toNat)) else (none)) else (none))
theorem impl_owners.mono:∀ a0 a1 a2 a3 k,LeO (impl_owners.f k a0 a1 a2 a3) (impl_owners.f (k+1) a0 a1 a2 a3):=by
 intro a0 a1 a2 a3 k
 unfold impl_owners.f
 repeat' first
   | (with_reducible exact impl_order.mono _ _ _ _)
   | (with_reducible exact LeO.refl _)
   | (with_reducible exact LeO.none _)
   | (with_reducible refine LeO.ite ?_ ?_)
   | (with_reducible refine LeO.bind ?_ (fun _=>?_))
   | exact impl_order.mono _ _ _ _
   | exact LeO.none _
   | refine LeO.ite ?_ ?_
   | refine LeO.bind ?_ (fun _=>?_)
set_option maxHeartbeats 8000000 in
set_option maxRecDepth 100000 in
theorem impl_owners.calls (k:Nat) (a0_0:Int) (A0_1:Option Addr) (c0_1:Nat) (l0_1:List (S77)) (a1:ByteArray) (a2:Int) (r:List Int) (w:World) (hr0_1:Kd.C k77 w A0_1 l0_1.length l0_1) (hc0_1:l0_1.length≤c0_1) (h:impl_owners.f k a0_0 l0_1 a1 a2=some r) :
  Calls Tryd.prog 85 #[.agg #[.int .i64 a0_0,.slice A0_1 l0_1.length c0_1],.string a1,.int .i64 a2] w fun e w'=>∃ v0_:Value,e = .returned (v0_)∧Kd.R (Kd.int .i64) 2 w' w.heap.size (fun _=>True) v0_ r∧Below w.heap.size w w':=by
 have hu24:=Tryd.underlying24
 have HR0_1:=Aside0.mk hr0_1
 have HC0_1:=Aside0.mk hc0_1
 clear hr0_1 hc0_1
 have HB:=Aside0.mk (Below.refl w.heap.size w)
 have H:((impl_order.f k a0_0 l0_1 a1).bind fun t480=>(if 0≤(mn a2 (t480.length:Int)) then (if (mn a2 (t480.length:Int))≤(t480.length:Int) then (some (t480.take ((mn a2 (t480.length:Int)):Int).toNat)) else (none)) else (none)))=some r:=h
 clear h
 replace H:=Option.bind_eq_some_iff.mp H
 obtain ⟨t480,A40,H⟩:=H
 replace H:(if 0≤(mn a2 (t480.length:Int)) then (if (mn a2 (t480.length:Int))≤(t480.length:Int) then (some (t480.take ((mn a2 (t480.length:Int)):Int).toNat)) else (none)) else (none))=some r:=H
 have A4:=Aside0.mk A40
 clear A40
 obtain ⟨ji5,hji5⟩:∃ j_:Int,(mn a2 (t480.length:Int))=j_:=⟨_,rfl⟩
 replace H:(if 0≤(ji5) then (if (ji5)≤(t480.length:Int) then (some (t480.take ((ji5):Int).toNat)) else (none)) else (none))=some r:=by first | (rw [hji5] at H;exact H) | (simp only [hji5] at H ⊢;exact H)
 (try rw [hji5] at A4)
 have hji5_:(if (t480.length:Int)<a2 then (t480.length:Int) else a2)=ji5:=hji5
 by_cases c6:0≤(ji5)
 ·rw [if_pos c6] at H
  have c6b0:=eq_true c6
  have c6b1:decide (0≤(ji5))=true:=decide_eq_true c6
  clear c6
  by_cases c7:(ji5)≤(t480.length:Int)
  ·rw [if_pos c7] at H
   have c7b0:=eq_true c7
   have c7b1:decide ((ji5)≤(t480.length:Int))=true:=decide_eq_true c7
   clear c7
   obtain ⟨y483,hy483⟩:∃ y_:List Int,y_=(t480.take ((ji5):Int).toNat):=⟨_,rfl⟩
   replace H:(some y483)=some r:=by first | (rw [hy483];with_reducible exact H) | (have H2_:=(Option.bind_some _ _).symm.trans H;rw [hy483];with_reducible exact H2_) | (have H2_:=(Option.bind_some _ _).symm.trans H;with_reducible exact H2_) | with_reducible exact H | (rw [hy483];exact H) | exact H
   have Ny483:=Aside0.mk hy483
   clear hy483
   obtain rfl:=Option.some.inj H
   go_enter Tryd.func85,Tryd.ntmps85
   go_wp2_with (first | ((with_reducible refine gd_ 3 ?_);refine be_ 3 #[.int .i64 a0_0,.slice A0_1 l0_1.length c0_1] 24 ?_;intro gb479 hg w8 hbox hb;refine as4_ (below_step (z4_ HB.out) hb) (hbox) ((z8_ HB.out:w.heap.size≤gb479)) ((z8_ HB.out:w.heap.size≤gb479)) ?_;clear HB;intro HB BK479 GW479 GE479;clear hb hbox hg;have ⟨hcz9_0,hcz9_1,hfz9_0,hfz9_1⟩:=cz2_ BK479.out) | ((with_reducible refine gc_ 56 ?_);refine gl_ (some 10) Tryd.func56 #[.agg #[.int .i64 a0_0,.slice A0_1 l0_1.length c0_1],.string a1] ?_;(with_reducible refine (impl_order.calls k a0_0 _ _ l0_1 a1 t480 _ ?s1 ?s2 A4.out).mono ?_);(case s1=>repeat (first | exact (Kd.C_below HR0_1.out HB.out) | (with_reducible refine Kd.C_alloc ?_ _) | (with_reducible refine Kd.C_drewN ?_ _) | (with_reducible refine Kd.C_drew ?_)));(case s2=>exact HC0_1.out);rintro e w10 ⟨v481,rfl,ho0,hb⟩;refine ⟨_,rfl,?_⟩;refine as3_ (Kd.R_lower ho0 (below_size (z7_ HB.out GE479.out))) (blkB_ BK479.out hb) (below_step (z7_ HB.out GE479.out) hb) ?_;clear BK479 HB;intro HO482 BK479 HB;(try clear hb);(try clear ho0);obtain ⟨Ao11,co11,eo11⟩:=Kd.R_slice HO482.out;subst eo11;have q12:((ji5):Int)≤((t480.length:Int):Int):=of_decide_eq_true (z0_);obtain ⟨i012,hi012,_,hsz12,_⟩:=info_parts info2;have hcut12:=cut_to (P:=Tryd.prog) 37 2 .i64 Tryd.underlying37 hi012 Ao11 t480.length co11 (ji5) (of_decide_eq_true (z0_)) q12 (Kd.R_reads' HO482.out).2.1;have hr12:=Kd.R_take (m:=((ji5):Int).toNat) HO482.out (by omega);have hy12:y483.length=((ji5):Int).toNat:=(by rw [Ny483.out,List.length_take];omega);rw [← Ny483.out] at hr12;rw [← hy12] at hr12 hcut12;clear hy12 hi012 hsz12 HO482;have HO485:=Aside0.mk hr12;clear hr12;replace q12:=eq_true q12))
   go_ret
   exact ⟨_,by first | rfl | (simp [errW_none,errW_some] <;> rfl) | (simp only [← hji5];first | rfl | (simp [errW_none,errW_some] <;> rfl)) | (simp [*,errW_none,errW_some] <;> rfl),z1_ HO485.out,z7_ HB.out GE479.out⟩
  ·rw [if_neg c7] at H
   exact absurd H (by simp)
 ·rw [if_neg c6] at H
  exact absurd H (by simp)


/-! ### slices_Clone_int64_int64: function 87 -/
def slices_Clone_int64_int64.f (l0:List Int):Option (List Int):=(some (([]:List Int):List Int)).bind fun y486=>(if y486.length+l0.length<17592186044416 then (some (y486 ++ l0)) else (none))
set_option maxHeartbeats 8000000 in
set_option maxRecDepth 100000 in
theorem slices_Clone_int64_int64.calls (A0:Option Addr) (c0:Nat) (l0:List Int) (r:List Int) (w:World) (hr0:Kd.C (Kd.int .i64) w A0 l0.length l0) (hc0:l0.length≤c0) (h:slices_Clone_int64_int64.f l0=some r) :
  Calls Tryd.prog 87 #[.slice A0 l0.length c0] w fun e w'=>∃ v0_:Value,e = .returned (v0_)∧Kd.R (Kd.int .i64) 2 w' w.heap.size (fun _=>True) v0_ r∧Below w.heap.size w w':=by
 have q_:∀ (w:World) (a:Option Addr) (n c n' c':Nat),(binOp .eql 37 (.slice a n c) (.slice none n' c')).run Tryd.prog w = .ok (.bool a.isNone) w:=fun w a n c n' c'=>Lib.run_eql_slice_nil w _ _ a n c n' c' Tryd.underlying37
 by_cases hA0_:A0=none
 ·subst hA0_
  obtain rfl:l0=[]:=by
   cases l0 with
   | nil=>rfl
   | cons a_ t_=>obtain ⟨ad_,c_,e_,_⟩:=Kd.C_get hr0 a_ 0 (by decide) (by simp);cases e_
  obtain rfl:([]:List Int)=r:=by simpa [slices_Clone_int64_int64.f] using h
  clear h hr0
  go_enter Tryd.func87,Tryd.ntmps87
  go_wp2
  go_ret
  exact ⟨.slice none 0 0,rfl,Kd.R_nil _ _ _ _ _,Below.refl _ _⟩
 obtain ⟨A0,rfl⟩:=Option.ne_none_iff_exists'.1 hA0_
 clear hA0_
 have HR0:=Aside0.mk hr0
 have HC0:=Aside0.mk hc0
 clear hr0 hc0
 have HB:=Aside0.mk (Below.refl w.heap.size w)
 have H:((some (([]:List Int):List Int)).bind fun y486=>(if y486.length+l0.length<17592186044416 then (some (y486 ++ l0)) else (none)))=some r:=h
 clear h
 obtain ⟨y486,hy486⟩:∃ y_:List Int,y_=(([]:List Int)):=⟨_,rfl⟩
 replace H:(if y486.length+l0.length<17592186044416 then (some (y486 ++ l0)) else (none))=some r:=by first | (rw [hy486];with_reducible exact H) | (have H2_:=(Option.bind_some _ _).symm.trans H;rw [hy486];with_reducible exact H2_) | (have H2_:=(Option.bind_some _ _).symm.trans H;with_reducible exact H2_) | with_reducible exact H | (rw [hy486];exact H) | exact H
 have Ny486:=Aside0.mk hy486
 clear hy486
 by_cases c2:y486.length+l0.length<17592186044416
 ·rw [if_pos c2] at H
  have LMc2:=Aside0.mk c2
  clear c2
  obtain ⟨y489,hy489⟩:∃ y_:List Int,y_=(y486 ++ l0):=⟨_,rfl⟩
  replace H:(some y489)=some r:=by first | (rw [hy489];with_reducible exact H) | (have H2_:=(Option.bind_some _ _).symm.trans H;rw [hy489];with_reducible exact H2_) | (have H2_:=(Option.bind_some _ _).symm.trans H;with_reducible exact H2_) | with_reducible exact H | (rw [hy489];exact H) | exact H
  have Ny489:=Aside0.mk hy489
  clear hy489
  obtain rfl:=Option.some.inj H
  go_enter Tryd.func87,Tryd.ntmps87
  go_wp2_with (first | ((with_reducible refine gd_ 5 ?_);refine Kd.R_lit (Kd.int .i64) _ 2 ?hg (N:=5) ?hd (xs:=([]:List Int)) (inner:=[]) (ok:=fun _=>True) (okp:=fun _=>True) ?hr ?hp (fun _ hk=>hk) trivial (Below.refl _ _) (Nat.le_refl _) (by simp) ?_;(case hd=>rfl);(case hg=>rfl);(case hr=>first | (go_simp;done) | (go_simp;rfl));(case hp=>exact (Reps.none _ _));intro v487 w3 ho4 hb hg_ hnew_;clear hg_ hnew_;(first | rw [← Ny486.out] at ho4 | (simp only [Int.reduceToNat] at ho4;rw [← Ny486.out] at ho4));refine as2_ (Kd.R_lower ho4 (below_size (z4_ HB.out))) (below_step (z4_ HB.out) hb) ?_;clear HB;intro HO488 HB;clear hb ho4) | ((with_reducible refine gate_builtin (b:=.append) (xs:=#[.tmp 5,.tmp 6]) rfl ?_);at_builtin;refine Kd.R_append_rows (Kd.int .i64) (w0:=w) w.heap.size rfl (.tmp 5) (.tmp 6) 37 2 (.int .i64 0) 8 rfl Tryd.underlying37 info2 rfl (by decide) (by omega) v487 y486 l0 _ _ _ (fun _=>True) (fun _=>False) rfl rfl ?aO ?aR (fun _ _ h=>h) (fun _ h=>h.elim) ?aF ?aB ?aS ?aL ?_;(case aR=>repeat (first | exact (Kd.C_below HR0.out HB.out) | (with_reducible refine Kd.C_alloc ?_ _) | (with_reducible refine Kd.C_drewN ?_ _) | (with_reducible refine Kd.C_drew ?_)));(case aB=>exact (z4_ HB.out));(case aF=>exact (fun _ _=>trivial));(case aO=>exact (z1_ HO488.out));(case aS=>exact (below_size (z4_ HB.out)));(case aL=>have:=LMc2.out;omega);intro v490 w5 ho hb hg hat;rw [← Ny489.out] at ho;refine as2_ (hb) (ho) ?_;clear HB HO488;intro HB HO491;clear ho hb hg hat))
  go_ret
  exact ⟨_,z10_,z1_ HO491.out,z4_ HB.out⟩
 ·rw [if_neg c2] at H
  exact absurd H (by simp)


/-! ### impl_newcomers_1_cap: function 88 -/
def impl_newcomers_1_cap.f (k:Nat) (a0:Int) (l1_0:List Int):Option (Bool):=(slices_Contains_int64_int64.f k l1_0 a0).bind fun t492=>(some t492)
theorem impl_newcomers_1_cap.mono:∀ a0 a1 k,LeO (impl_newcomers_1_cap.f k a0 a1) (impl_newcomers_1_cap.f (k+1) a0 a1):=by
 intro a0 a1 k
 unfold impl_newcomers_1_cap.f
 repeat' first
   | (with_reducible exact slices_Contains_int64_int64.mono _ _ _)
   | (with_reducible exact LeO.refl _)
   | (with_reducible exact LeO.none _)
   | (with_reducible refine LeO.ite ?_ ?_)
   | (with_reducible refine LeO.bind ?_ (fun _=>?_))
   | exact slices_Contains_int64_int64.mono _ _ _
   | exact LeO.none _
   | refine LeO.ite ?_ ?_
   | refine LeO.bind ?_ (fun _=>?_)
set_option maxHeartbeats 8000000 in
set_option maxRecDepth 100000 in
theorem impl_newcomers_1_cap.calls (k:Nat) (a0:Int) (gb1:Nat) (A1_0:Option Addr) (c1_0:Nat) (l1_0:List Int) (r:Bool) (w:World) (hr1_0:Kd.C (Kd.int .i64) w A1_0 l1_0.length l1_0) (hc1_0:l1_0.length≤c1_0) (hk1:w.heap[gb1]? = some (.cells #[.slice A1_0 l1_0.length c1_0] 37 (0,0))) (h:impl_newcomers_1_cap.f k a0 l1_0=some r) :
  Calls Tryd.prog 88 #[.int .i64 a0,.pointer (some ⟨gb1,0,none⟩)] w fun e w'=>e = .returned (.bool r)∧Below w.heap.size w w':=by
 have HR1_0:=Aside0.mk hr1_0
 have HC1_0:=Aside0.mk hc1_0
 clear hr1_0 hc1_0
 have BK61:=Aside0.mk hk1
 clear hk1
 have HB:=Aside0.mk (Below.refl w.heap.size w)
 have H:((slices_Contains_int64_int64.f k l1_0 a0).bind fun t492=>(some t492))=some r:=h
 clear h
 replace H:=Option.bind_eq_some_iff.mp H
 obtain ⟨t492,A30,H⟩:=H
 replace H:(some t492)=some r:=H
 have A3:=Aside0.mk A30
 clear A30
 obtain rfl:=Option.some.inj H
 have ⟨hcz4_0,hfz4_0⟩:=cz1_ BK61.out
 go_enter Tryd.func88,Tryd.ntmps88
 go_wp2_with (first | ((with_reducible refine gc_ 89 ?_);refine gl_ (some 6) Tryd.func89 #[.slice A1_0 l1_0.length c1_0,.int .i64 a0] ?_;(with_reducible refine (slices_Contains_int64_int64.calls k _ _ l1_0 a0 t492 _ ?s1 ?s2 A3.out).mono ?_);(case s1=>repeat (first | exact HR1_0.out | (with_reducible refine Kd.C_alloc ?_ _) | (with_reducible refine Kd.C_drewN ?_ _) | (with_reducible refine Kd.C_drew ?_)));(case s2=>exact HC1_0.out);rintro e w' ⟨rfl,⟨nd,rfl⟩⟩;refine ⟨_,rfl,?_⟩))
 go_ret
 exact ⟨z10_,by repeat (first | (with_reducible first | exact HB.out | apply below_alloc | apply pw_below_drewN | apply below_drew1 | refine below_set ?_ GE61.out) | exact HB.out)⟩


/-! ### slices_IndexFunc_int64_int64_impl_newcomers_1: function 113 -/
def slices_IndexFunc_int64_int64_impl_newcomers_1.l0:Nat→List Int→Int→Int→List Int→Option (Int)
 | 0,_,_,_,_=>none
 | k+1,x0,x7,x8,x62000=>if x8<x7 then (if 0≤x8 then (if x8<(x0.length:Int) then ((impl_newcomers_1_cap.f k (rd x0 x8) x62000).bind fun t494=>(if t494=true then (some x8) else (slices_IndexFunc_int64_int64_impl_newcomers_1.l0 k x0 x7 (wrap64 (x8+1)) x62000))) else (none)) else (none)) else (some (-1))
def slices_IndexFunc_int64_int64_impl_newcomers_1.f (k:Nat) (l0:List Int) (l1_0:List Int):Option (Int):=slices_IndexFunc_int64_int64_impl_newcomers_1.l0 k l0 (l0.length:Int) 0 l1_0
theorem slices_IndexFunc_int64_int64_impl_newcomers_1.mono_l:∀ k,(∀ y0 y1 y2 y3,LeO (slices_IndexFunc_int64_int64_impl_newcomers_1.l0 k y0 y1 y2 y3) (slices_IndexFunc_int64_int64_impl_newcomers_1.l0 (k+1) y0 y1 y2 y3))
 | 0=>fun _ _ _ _ r h=>by simp [slices_IndexFunc_int64_int64_impl_newcomers_1.l0] at h
 | k+1=>by
  have ih0:=slices_IndexFunc_int64_int64_impl_newcomers_1.mono_l k
  ·intro y0 y1 y2 y3
   unfold slices_IndexFunc_int64_int64_impl_newcomers_1.l0
   repeat' first
   | (with_reducible exact ih0 _ _ _ _)
   | (with_reducible exact impl_newcomers_1_cap.mono _ _ _)
   | (with_reducible exact LeO.refl _)
   | (with_reducible exact LeO.none _)
   | (with_reducible refine LeO.ite ?_ ?_)
   | (with_reducible refine LeO.bind ?_ (fun _=>?_))
   | exact ih0 _ _ _ _
   | exact impl_newcomers_1_cap.mono _ _ _
   | exact LeO.none _
   | refine LeO.ite ?_ ?_
   | refine LeO.bind ?_ (fun _=>?_)
theorem slices_IndexFunc_int64_int64_impl_newcomers_1.mono:∀ a0 a1 k,LeO (slices_IndexFunc_int64_int64_impl_newcomers_1.f k a0 a1) (slices_IndexFunc_int64_int64_impl_newcomers_1.f (k+1) a0 a1):=by
 intro a0 a1 k
 have ih0:=slices_IndexFunc_int64_int64_impl_newcomers_1.mono_l k
 unfold slices_IndexFunc_int64_int64_impl_newcomers_1.f
 repeat' first
   | (with_reducible exact ih0 _ _ _ _)
   | (with_reducible exact impl_newcomers_1_cap.mono _ _ _)
   | (with_reducible exact LeO.refl _)
   | (with_reducible exact LeO.none _)
   | (with_reducible refine LeO.ite ?_ ?_)
   | (with_reducible refine LeO.bind ?_ (fun _=>?_))
   | exact ih0 _ _ _ _
   | exact impl_newcomers_1_cap.mono _ _ _
   | exact LeO.none _
   | refine LeO.ite ?_ ?_
   | refine LeO.bind ?_ (fun _=>?_)
set_option maxHeartbeats 8000000 in
set_option maxRecDepth 100000 in
theorem slices_IndexFunc_int64_int64_impl_newcomers_1.calls (k:Nat) (A0:Option Addr) (c0:Nat) (l0:List Int) (gb1:Nat) (A1_0:Option Addr) (c1_0:Nat) (l1_0:List Int) (r:Int) (w:World) (hr0:Kd.C (Kd.int .i64) w A0 l0.length l0) (hc0:l0.length≤c0) (hr1_0:Kd.C (Kd.int .i64) w A1_0 l1_0.length l1_0) (hc1_0:l1_0.length≤c1_0) (hk1:w.heap[gb1]? = some (.cells #[.slice A1_0 l1_0.length c1_0] 37 (0,0))) (h:slices_IndexFunc_int64_int64_impl_newcomers_1.f k l0 l1_0=some r) :
  Calls Tryd.prog 113 #[.slice A0 l0.length c0,.func (.func 88) #[] #[.pointer (some ⟨gb1,0,none⟩)]] w fun e w'=>e = .returned (.int .i64 r)∧Below w.heap.size w w':=by
 have HR0:=Aside0.mk hr0
 have HC0:=Aside0.mk hc0
 clear hr0 hc0
 have HR1_0:=Aside0.mk hr1_0
 have HC1_0:=Aside0.mk hc1_0
 clear hr1_0 hc1_0
 have BK61:=Aside0.mk hk1
 clear hk1
 have HB:=Aside0.mk (Below.refl w.heap.size w)
 have H:(slices_IndexFunc_int64_int64_impl_newcomers_1.l0 k l0 (l0.length:Int) 0 l1_0)=some r:=h
 clear h
 have H':=Aside0.mk H
 clear H
 go_enter Tryd.func113,Tryd.ntmps113
 go_wp2
 go_loopg [8] k (fun kq v8 w'=>∃ (x8_1:Int),v8 = .int .i64 x8_1∧Aside0 (slices_IndexFunc_int64_int64_impl_newcomers_1.l0 kq l0 (l0.length:Int) x8_1 l1_0=some r)∧Aside0 (kq≤k)∧Aside0 (w'.heap[gb1]? = some (.cells #[(.slice A1_0 l1_0.length c1_0)] 37 (0,0)))∧Aside0 (Below w.heap.size w w'))
 case atStart=>exact ⟨(0),(z2_),H',⟨Nat.le_refl _⟩,⟨z3_ BK61.out⟩,⟨by repeat (first | (with_reducible first | exact HB.out | apply below_alloc | apply pw_below_drewN | apply below_drew1 | refine below_set ?_ GE61.out) | exact HB.out)⟩⟩
 case round =>
  clear H'
  try clear c1
  try clear p2
  obtain ⟨x8_1,rfl,HA,HK1,BK61,HB⟩:=hrel
  cases gk with
  | zero=>exact absurd HA.out (by simp [slices_IndexFunc_int64_int64_impl_newcomers_1.l0])
  | succ k1 =>
   have H:=HA.out
   clear HA
   simp only [slices_IndexFunc_int64_int64_impl_newcomers_1.l0] at H
   by_cases c3:x8_1<(l0.length:Int)
   ·rw [if_pos c3] at H
    have c3b0:decide (x8_1<(l0.length:Int))=true:=decide_eq_true c3
    clear c3
    by_cases c4:0≤x8_1
    ·rw [if_pos c4] at H
     have c4b0:decide (0≤x8_1)=true:=decide_eq_true c4
     clear c4
     by_cases c5:x8_1<(l0.length:Int)
     ·rw [if_pos c5] at H
      have c5b0:decide (x8_1<(l0.length:Int))=true:=decide_eq_true c5
      clear c5
      replace H:=Option.bind_eq_some_iff.mp H
      obtain ⟨t494,A60,H⟩:=H
      replace H:(if t494=true then (some x8_1) else (slices_IndexFunc_int64_int64_impl_newcomers_1.l0 k1 l0 (l0.length:Int) (wrap64 (x8_1+1)) l1_0))=some r:=H
      have A6:=Aside0.mk A60
      clear A60
      by_cases c7:t494=true
      ·subst c7
       have H1:(some x8_1)=some r:=by rw [if_pos rfl] at H;exact H
       clear H
       have H:=H1
       clear H1
       obtain rfl:=Option.some.inj H
       have p493:0≤(x8_1:Int):=of_decide_eq_true (z0_)
       have q493:x8_1<(l0.length:Int):=of_decide_eq_true (z0_)
       obtain ⟨ad493,e493,hx493_0⟩:=Kd.at_int HR0.out x8_1 p493 q493
       cases e493
       replace hx493_0:=(HB.out.cell (World.block_lt_of_cell? w _ hx493_0)).trans hx493_0
       replace p493:=eq_true p493
       replace q493:=eq_true q493
       go_wp2_with (first | (go_at_call 88;(with_reducible refine (impl_newcomers_1_cap.calls k1 (rd l0 x8_1) gb1 A1_0 c1_0 l1_0 true _ ?s1 ?s2 ?s3 A6.out).mono ?_);(case s1=>repeat (first | exact (Kd.C_below HR1_0.out HB.out) | (with_reducible refine Kd.C_alloc ?_ _) | (with_reducible refine Kd.C_drewN ?_ _) | (with_reducible refine Kd.C_drew ?_)));(case s2=>exact HC1_0.out);(case s3=>(with_reducible repeat (first | refine blk_drewN ?_ _ | refine blk_drew ?_ | refine blk_alloc ?_ _));exact BK61.out);rintro e w8 ⟨rfl,hb⟩;refine as2_ (blkB_ BK61.out hb) (below_step (by repeat (first | (with_reducible first | exact HB.out | apply below_alloc | apply pw_below_drewN | apply below_drew1 | refine below_set ?_ GE61.out) | exact HB.out)) hb) ?_;clear BK61 HB;intro BK61 HB;(try clear hb)))
       go_ret
       exact ⟨z10_,by repeat (first | (with_reducible first | exact HB.out | apply below_alloc | apply pw_below_drewN | apply below_drew1 | refine below_set ?_ GE61.out) | exact HB.out)⟩
      ·replace c7:=Bool.eq_false_iff.mpr c7
       subst c7
       have H1:(slices_IndexFunc_int64_int64_impl_newcomers_1.l0 k1 l0 (l0.length:Int) (wrap64 (x8_1+1)) l1_0)=some r:=by rw [if_neg (show ¬ (false=true) by decide)] at H;exact H
       clear H
       have H:=H1
       clear H1
       have H':=Aside0.mk H
       clear H
       have p493:0≤(x8_1:Int):=of_decide_eq_true (z0_)
       have q493:x8_1<(l0.length:Int):=of_decide_eq_true (z0_)
       obtain ⟨ad493,e493,hx493_0⟩:=Kd.at_int HR0.out x8_1 p493 q493
       cases e493
       replace hx493_0:=(HB.out.cell (World.block_lt_of_cell? w _ hx493_0)).trans hx493_0
       replace p493:=eq_true p493
       replace q493:=eq_true q493
       go_wp2_with (first | (go_at_call 88;(with_reducible refine (impl_newcomers_1_cap.calls k1 (rd l0 x8_1) gb1 A1_0 c1_0 l1_0 false _ ?s1 ?s2 ?s3 A6.out).mono ?_);(case s1=>repeat (first | exact (Kd.C_below HR1_0.out HB.out) | (with_reducible refine Kd.C_alloc ?_ _) | (with_reducible refine Kd.C_drewN ?_ _) | (with_reducible refine Kd.C_drew ?_)));(case s2=>exact HC1_0.out);(case s3=>(with_reducible repeat (first | refine blk_drewN ?_ _ | refine blk_drew ?_ | refine blk_alloc ?_ _));exact BK61.out);rintro e w9 ⟨rfl,hb⟩;refine as2_ (blkB_ BK61.out hb) (below_step (by repeat (first | (with_reducible first | exact HB.out | apply below_alloc | apply pw_below_drewN | apply below_drew1 | refine below_set ?_ GE61.out) | exact HB.out)) hb) ?_;clear BK61 HB;intro BK61 HB;(try clear hb)))
       go_roundg k1
       case measure=>have:=HK1.out;omega
       case rel=>exact ⟨(wrap64 (x8_1+1)),(z2_),H',⟨by have:=HK1.out;omega⟩,⟨z3_ BK61.out⟩,⟨by repeat (first | (with_reducible first | exact HB.out | apply below_alloc | apply pw_below_drewN | apply below_drew1 | refine below_set ?_ GE61.out) | exact HB.out)⟩⟩
     ·rw [if_neg c5] at H
      exact absurd H (by simp)
    ·rw [if_neg c4] at H
     exact absurd H (by simp)
   ·rw [if_neg c3] at H
    have c3b0:decide (x8_1<(l0.length:Int))=false:=decide_eq_false c3
    clear c3
    obtain rfl:=Option.some.inj H
    go_wp2
    go_ret
    exact ⟨z10_,by repeat (first | (with_reducible first | exact HB.out | apply below_alloc | apply pw_below_drewN | apply below_drew1 | refine below_set ?_ GE61.out) | exact HB.out)⟩


theorem clear_cells {base g cap:Nat} {ok:Nat→Prop}:∀ (m i:Nat) (xs:List Int) (W:World),Kd.R (Kd.int .i64) 2 W base ok (.slice (some ⟨g,0,none⟩) xs.length cap) xs→i+m≤xs.length →
  ∃ xs':List Int,xs'.length=xs.length∧xs'.take i=xs.take i∧Kd.R (Kd.int .i64) 2 (W.setCells g i (List.replicate m (.int .i64 0))) base ok (.slice (some ⟨g,0,none⟩) xs.length cap) xs'
 | 0,i,xs,W,h,hi=>⟨xs,rfl,rfl,h⟩
 | m+1,i,xs,W,h,hi=>by
  have h1:=(Kd.R_put h (i:Int) (0:Int)).1
  rw [Int.toNat_natCast] at h1
  obtain ⟨xs',a,b,c⟩:=clear_cells m (i+1) (xs.set i 0) _ (by rw [List.length_set];exact h1) (by rw [List.length_set];omega)
  rw [List.length_set] at a c
  refine ⟨xs',a,?_,c⟩
  have:=congrArg (List.take i) b
  simpa [List.take_take,List.take_set_of_le] using this
theorem kept_cells {w:World} {S:Nat→Prop} {g:Nat} (hg:S g∨w.heap.size≤g):∀ (vs:List Value) (o:Nat) (W:World),Kept w W S→Kept w (W.setCells g o vs) S
 | [],_,_,h=>h
 | v :: r,o,W,h=>kept_cells hg r (o+1) _ (Kept.setCell (p:=⟨g,o,none⟩) h hg v)
theorem below_cells {w0:World} {g:Nat} (hg:w0.heap.size≤g):∀ (vs:List Value) (o:Nat) (W:World),Below w0.heap.size w0 W→Below w0.heap.size w0 (W.setCells g o vs)
 | [],_,_,h=>h
 | v :: r,o,W,h=>below_cells hg r (o+1) _ (below_set h hg)
theorem clear_row {P:Program} {w0 w W:World} {t ty:TypeId} {ok S:Nat→Prop} {A:Option Addr} {c:Nat} {xs:List Int} {i:Int}
  (ht:P.underlying t=some (.slice 2)) (hv:∀ w,(zeroValue 2).run P w = .ok (.int .i64 0) w)
  (h:Kd.R (Kd.int .i64) 2 W w0.heap.size ok (.slice A xs.length c) xs) (hs:∀ k,ok k→S k∨w.heap.size≤k) (h0:0≤i) (hi:i≤(xs.length:Int)) (HK:Kept w W S) (HB:Below w0.heap.size w0 W) :
  ∃ (W':World) (xs':List Int),(Builtin.clear_ #[t] ty #[.slice (if c=i.toNat then A else A.map (·.add (i.toNat*1))) (xs.length-i.toNat) (c-i.toNat)]).run P W = .ok (.tuple #[]) W' ∧
   xs'.length=xs.length∧xs'.take i.toNat=xs.take i.toNat∧Kd.R (Kd.int .i64) 2 W' w0.heap.size ok (.slice A xs.length c) xs'∧Kept w W' S∧Below w0.heap.size w0 W':=by
 by_cases hlt:i.toNat<xs.length
 ·obtain ⟨g,cap,he,hb,hl,cells,hc⟩:=Kd.R_form h (by omega)
  injection he with e1 _ e2
  subst e1 e2
  have hcap:=(Kd.R_reads' h).2.1
  rw [if_neg (by omega),Option.map_some,add_plain,Nat.mul_one]
  obtain ⟨xs',a,b,r⟩:=clear_cells (xs.length-i.toNat) i.toNat xs W h (by omega)
  have hS:=hs g (h.1 g rfl)
  have hel:∀ j,j<xs.length-i.toNat→(W.cell? ⟨g,i.toNat+j,none⟩).isSome=true∧W.frozen? ⟨g,i.toNat+j,none⟩=false:=fun j hj=>by
   obtain ⟨ce,hcl,hM,hcc,hfr⟩:=Kd.R_elem h (0:Int) ((i.toNat+j:Nat):Int) (by omega) (by omega)
   have h3:=hfr 0
   have hce:∃ v,ce[0]? = some v:=by
    cases ce with
    | nil=>simp [Kd.int,Kd.scalar] at hcl
    | cons v r=>exact ⟨v,rfl⟩
   obtain ⟨v,hv0⟩:=hce
   have h4:=hcc 0 v hv0
   have es:(Kd.int .i64).sz=1:=rfl
   rw [es,Int.toNat_natCast,Nat.mul_one,Nat.add_zero] at h3 h4
   exact ⟨by rw [h4];rfl,h3⟩
  refine ⟨_,xs',Lib.run_clear_slice W t 2 ty (.int .i64 0) ht hv rfl rfl g i.toNat (xs.length-i.toNat) (c-i.toNat) (by omega) (fun j hj=>(hel j hj).1) (fun j hj=>(hel j hj).2),a,b,r,kept_cells hS _ _ _ HK,below_cells hb _ _ _ HB⟩
 ·refine ⟨W,xs,?_,rfl,rfl,h,HK,HB⟩
  rw [show xs.length-i.toNat=0 by omega]
  generalize (if c=i.toNat then A else A.map (·.add (i.toNat*1)))=A'
  cases A' <;> simp [Builtin.clear_,run_underlying ht]

/-! ### slices_DeleteFunc_int64_int64_impl_newcomers_1: function 86 -/
def slices_DeleteFunc_int64_int64_impl_newcomers_1.l0:Nat→List Int→Int→Int→List Int→Option (List Int)
 | 0,_,_,_,_=>none
 | k+1,x0,x5,x6,x62000=>if x6<(x0.length:Int) then (if 0≤x6 then ((impl_newcomers_1_cap.f k (rd x0 x6) x62000).bind fun t500=>(if t500=true then (slices_DeleteFunc_int64_int64_impl_newcomers_1.l0 k x0 x5 (wrap64 (x6+1)) x62000) else (if 0≤x5 then (if x5<(x0.length:Int) then (slices_DeleteFunc_int64_int64_impl_newcomers_1.l0 k (x0.set (x5:Int).toNat (rd x0 x6)) (wrap64 (x5+1)) (wrap64 (x6+1)) x62000) else (none)) else (none)))) else (none)) else (if 0≤x5 then (if x5≤(x0.length:Int) then (some (x0.take (x5:Int).toNat)) else (none)) else (none))
def slices_DeleteFunc_int64_int64_impl_newcomers_1.f (k:Nat) (l0:List Int) (l1_0:List Int):Option (List Int):=(slices_IndexFunc_int64_int64_impl_newcomers_1.f k l0 l1_0).bind fun t495=>(if t495=(-1) then (some l0) else (slices_DeleteFunc_int64_int64_impl_newcomers_1.l0 k l0 t495 (wrap64 (t495+1)) l1_0))
theorem slices_DeleteFunc_int64_int64_impl_newcomers_1.mono_l:∀ k,(∀ y0 y1 y2 y3,LeO (slices_DeleteFunc_int64_int64_impl_newcomers_1.l0 k y0 y1 y2 y3) (slices_DeleteFunc_int64_int64_impl_newcomers_1.l0 (k+1) y0 y1 y2 y3))
 | 0=>fun _ _ _ _ r h=>by simp [slices_DeleteFunc_int64_int64_impl_newcomers_1.l0] at h
 | k+1=>by
  have ih0:=slices_DeleteFunc_int64_int64_impl_newcomers_1.mono_l k
  ·intro y0 y1 y2 y3
   unfold slices_DeleteFunc_int64_int64_impl_newcomers_1.l0
   repeat' first
   | (with_reducible exact ih0 _ _ _ _)
   | (with_reducible exact impl_newcomers_1_cap.mono _ _ _)
   | (with_reducible exact slices_IndexFunc_int64_int64_impl_newcomers_1.mono _ _ _)
   | (with_reducible exact LeO.refl _)
   | (with_reducible exact LeO.none _)
   | (with_reducible refine LeO.ite ?_ ?_)
   | (with_reducible refine LeO.bind ?_ (fun _=>?_))
   | exact ih0 _ _ _ _
   | exact impl_newcomers_1_cap.mono _ _ _
   | exact slices_IndexFunc_int64_int64_impl_newcomers_1.mono _ _ _
   | exact LeO.none _
   | refine LeO.ite ?_ ?_
   | refine LeO.bind ?_ (fun _=>?_)
theorem slices_DeleteFunc_int64_int64_impl_newcomers_1.mono:∀ a0 a1 k,LeO (slices_DeleteFunc_int64_int64_impl_newcomers_1.f k a0 a1) (slices_DeleteFunc_int64_int64_impl_newcomers_1.f (k+1) a0 a1):=by
 intro a0 a1 k
 have ih0:=slices_DeleteFunc_int64_int64_impl_newcomers_1.mono_l k
 unfold slices_DeleteFunc_int64_int64_impl_newcomers_1.f
 repeat' first
   | (with_reducible exact ih0 _ _ _ _)
   | (with_reducible exact impl_newcomers_1_cap.mono _ _ _)
   | (with_reducible exact slices_IndexFunc_int64_int64_impl_newcomers_1.mono _ _ _)
   | (with_reducible exact LeO.refl _)
   | (with_reducible exact LeO.none _)
   | (with_reducible refine LeO.ite ?_ ?_)
   | (with_reducible refine LeO.bind ?_ (fun _=>?_))
   | exact ih0 _ _ _ _
   | exact impl_newcomers_1_cap.mono _ _ _
   | exact slices_IndexFunc_int64_int64_impl_newcomers_1.mono _ _ _
   | exact LeO.none _
   | refine LeO.ite ?_ ?_
   | refine LeO.bind ?_ (fun _=>?_)
set_option maxHeartbeats 8000000 in
set_option maxRecDepth 100000 in
theorem slices_DeleteFunc_int64_int64_impl_newcomers_1.calls (k:Nat) (P0_:Nat→Prop) (u9000_:Value) (l0:List Int) (gb1:Nat) (A1_0:Option Addr) (c1_0:Nat) (l1_0:List Int) (r:List Int) (w0 w:World) (hB:Below w0.heap.size w0 w) (ho0:Kd.R (Kd.int .i64) 2 w w0.heap.size P0_ u9000_ l0) (hr1_0:∀ W_,Kept w W_ (fun k_=>P0_ k_)→Kd.C (Kd.int .i64) W_ A1_0 l1_0.length l1_0) (hc1_0:l1_0.length≤c1_0) (hk1:w.heap[gb1]? = some (.cells #[.slice A1_0 l1_0.length c1_0] 37 (0,0))) (h:slices_DeleteFunc_int64_int64_impl_newcomers_1.f k l0 l1_0=some r) :
  Calls Tryd.prog 86 #[u9000_,.func (.func 88) #[] #[.pointer (some ⟨gb1,0,none⟩)]] w fun e w'=>∃ v0_:Value,e = .returned (v0_)∧Kd.R (Kd.int .i64) 2 w' w0.heap.size (fun k_=>(P0_ k_∨w.heap.size≤k_)) v0_ r∧Below w0.heap.size w0 w'∧Kept w w' (fun k_=>P0_ k_):=by
 have HO0:=Aside0.mk (show Kd.R (Kd.int .i64) 2 w w0.heap.size (fun k_=>(P0_ k_∨w.heap.size≤k_)) u9000_ l0 from Kd.R_mono ho0 (fun k_ hk=>(.inl hk)))
 have HR1_0:=Aside0.mk hr1_0
 have HC1_0:=Aside0.mk hc1_0
 clear hr1_0 hc1_0
 have BK61:=Aside0.mk hk1
 clear hk1
 have HK:=Aside0.mk (Kept.refl w (fun k_=>P0_ k_))
 have HW0:=Aside0.mk hB.size
 have HB:=Aside0.mk hB
 clear hB
 have H:((slices_IndexFunc_int64_int64_impl_newcomers_1.f k l0 l1_0).bind fun t495=>(if t495=(-1) then (some l0) else (slices_DeleteFunc_int64_int64_impl_newcomers_1.l0 k l0 t495 (wrap64 (t495+1)) l1_0)))=some r:=h
 clear h
 replace H:=Option.bind_eq_some_iff.mp H
 obtain ⟨t495,A30,H⟩:=H
 replace H:(if t495=(-1) then (some l0) else (slices_DeleteFunc_int64_int64_impl_newcomers_1.l0 k l0 t495 (wrap64 (t495+1)) l1_0))=some r:=H
 have A3:=Aside0.mk A30
 clear A30
 by_cases c4:t495=(-1)
 ·rw [if_pos c4] at H
  have c4b0:(t495 == (-1))=true:=beq_iff_eq.mpr c4
  have c4b1:(t495 != (-1))=false:=bne_eq_false_iff_eq.mpr c4
  clear c4
  obtain rfl:=Option.some.inj H
  obtain ⟨Ao5,co5,eo5⟩:=Kd.R_slice HO0.out
  subst eo5
  go_enter Tryd.func86,Tryd.ntmps86
  go_wp2_with (first | ((with_reducible refine gc_ 113 ?_);refine gl_ (some 10) Tryd.func113 #[.slice Ao5 l0.length co5,.func (.func 88) #[] #[.pointer (some ⟨gb1,0,none⟩)]] ?_;(with_reducible refine (slices_IndexFunc_int64_int64_impl_newcomers_1.calls k _ _ l0 gb1 A1_0 c1_0 l1_0 t495 _ ?s1 ?s2 ?s3 ?s4 ?s5 A3.out).mono ?_);(case s1=>repeat (first | exact (Kd.R_reads' HO0.out).2.2 | (with_reducible refine Kd.C_alloc ?_ _) | (with_reducible refine Kd.C_drewN ?_ _) | (with_reducible refine Kd.C_drew ?_)));(case s2=>exact (Kd.R_reads' HO0.out).2.1);(case s3=>repeat (first | exact (HR1_0.out _ HK.out) | (with_reducible refine Kd.C_alloc ?_ _) | (with_reducible refine Kd.C_drewN ?_ _) | (with_reducible refine Kd.C_drew ?_)));(case s4=>exact HC1_0.out);(case s5=>(with_reducible repeat (first | refine blk_drewN ?_ _ | refine blk_drew ?_ | refine blk_alloc ?_ _));exact BK61.out);rintro e w6 ⟨rfl,hb⟩;refine ⟨_,rfl,?_⟩;refine as4_ (Kd.R_below (z1_ HO0.out) hb) (blkB_ BK61.out hb) (Kept.below (S:=(fun k_=>P0_ k_)) (by repeat (first | (with_reducible first | exact HK.out | apply Kept.alloc | apply Kept.drewN | apply Kept.drew | refine Kept.setCell ?_ (.inr GW61.out) _) | exact HK.out)) hb) (below_step (by repeat (first | (with_reducible first | exact HB.out | apply below_alloc | apply pw_below_drewN | apply below_drew1 | refine below_set ?_ GE61.out) | exact HB.out)) hb) ?_;clear HO0 BK61 HK HB;intro HO0 BK61 HK HB;(try clear hb)))
  go_ret
  exact ⟨_,z10_,z1_ HO0.out,by repeat (first | (with_reducible first | exact HB.out | apply below_alloc | apply pw_below_drewN | apply below_drew1 | refine below_set ?_ GE61.out) | exact HB.out),by repeat (first | (with_reducible first | exact HK.out | apply Kept.alloc | apply Kept.drewN | apply Kept.drew | refine Kept.setCell ?_ (.inr GW61.out) _) | exact HK.out)⟩
 ·rw [if_neg c4] at H
  have c4b0:(t495 == (-1))=false:=beq_eq_false_iff_ne.mpr c4
  have c4b1:(t495 != (-1))=true:=bne_iff_ne.mpr c4
  have H':=Aside0.mk H
  clear H
  obtain ⟨Ao7,co7,eo7⟩:=Kd.R_slice HO0.out
  subst eo7
  go_enter Tryd.func86,Tryd.ntmps86
  go_wp2_with (first | ((with_reducible refine gc_ 113 ?_);refine gl_ (some 10) Tryd.func113 #[.slice Ao7 l0.length co7,.func (.func 88) #[] #[.pointer (some ⟨gb1,0,none⟩)]] ?_;(with_reducible refine (slices_IndexFunc_int64_int64_impl_newcomers_1.calls k _ _ l0 gb1 A1_0 c1_0 l1_0 t495 _ ?s1 ?s2 ?s3 ?s4 ?s5 A3.out).mono ?_);(case s1=>repeat (first | exact (Kd.R_reads' HO0.out).2.2 | (with_reducible refine Kd.C_alloc ?_ _) | (with_reducible refine Kd.C_drewN ?_ _) | (with_reducible refine Kd.C_drew ?_)));(case s2=>exact (Kd.R_reads' HO0.out).2.1);(case s3=>repeat (first | exact (HR1_0.out _ HK.out) | (with_reducible refine Kd.C_alloc ?_ _) | (with_reducible refine Kd.C_drewN ?_ _) | (with_reducible refine Kd.C_drew ?_)));(case s4=>exact HC1_0.out);(case s5=>(with_reducible repeat (first | refine blk_drewN ?_ _ | refine blk_drew ?_ | refine blk_alloc ?_ _));exact BK61.out);rintro e w8 ⟨rfl,hb⟩;refine ⟨_,rfl,?_⟩;refine as4_ (Kd.R_below (z1_ HO0.out) hb) (blkB_ BK61.out hb) (Kept.below (S:=(fun k_=>P0_ k_)) (by repeat (first | (with_reducible first | exact HK.out | apply Kept.alloc | apply Kept.drewN | apply Kept.drew | refine Kept.setCell ?_ (.inr GW61.out) _) | exact HK.out)) hb) (below_step (by repeat (first | (with_reducible first | exact HB.out | apply below_alloc | apply pw_below_drewN | apply below_drew1 | refine below_set ?_ GE61.out) | exact HB.out)) hb) ?_;clear HO0 BK61 HK HB;intro HO0 BK61 HK HB;(try clear hb)))
  go_loopg [5,6] k (fun kq v5 v6 w'=>∃ (x0_1:List Int) (x5_1:Int) (x6_1:Int),v5 = .int .i64 x5_1∧v6 = .int .i64 x6_1∧Aside0 (slices_DeleteFunc_int64_int64_impl_newcomers_1.l0 kq x0_1 x5_1 x6_1 l1_0=some r)∧Aside0 (kq≤k)∧Aside0 (Kd.R (Kd.int .i64) 2 w' w0.heap.size (fun k_=>(P0_ k_∨w.heap.size≤k_)) (.slice Ao7 l0.length co7) x0_1)∧Aside0 (w'.heap[gb1]? = some (.cells #[(.slice A1_0 l1_0.length c1_0)] 37 (0,0)))∧Aside0 (Kept w w' (fun k_=>P0_ k_))∧Aside0 (Below w0.heap.size w0 w'))
  case atStart=>exact ⟨(l0),(t495),(wrap64 (t495+1)),(z2_),(z2_),H',⟨Nat.le_refl _⟩,⟨z1_ HO0.out⟩,⟨z3_ BK61.out⟩,⟨by repeat (first | (with_reducible first | exact HK.out | apply Kept.alloc | apply Kept.drewN | apply Kept.drew | refine Kept.setCell ?_ (.inr GW61.out) _) | exact HK.out)⟩,⟨by repeat (first | (with_reducible first | exact HB.out | apply below_alloc | apply pw_below_drewN | apply below_drew1 | refine below_set ?_ GE61.out) | exact HB.out)⟩⟩
  case round =>
   clear H'
   try clear c1
   try clear p2
   try clear c4
   try clear c4b0
   try clear c4b1
   try clear p6
   try clear c7
   obtain ⟨x0_1,x5_1,x6_1,rfl,rfl,HA,HK1,HO_0,BK61,HK,HB⟩:=hrel
   have hl0_1:=(Kd.R_reads' HO_0.out).1
   rw [hl0_1] at HO_0
   (try simp only [hl0_1])
   (try simp only [hl0_1] at BK61)
   cases gk with
   | zero=>exact absurd HA.out (by simp [slices_DeleteFunc_int64_int64_impl_newcomers_1.l0])
   | succ k1 =>
    have H:=HA.out
    clear HA
    simp only [slices_DeleteFunc_int64_int64_impl_newcomers_1.l0] at H
    by_cases c9:x6_1<(x0_1.length:Int)
    ·rw [if_pos c9] at H
     have c9b0:decide (x6_1<(x0_1.length:Int))=true:=decide_eq_true c9
     clear c9
     by_cases c10:0≤x6_1
     ·rw [if_pos c10] at H
      have c10b0:decide (0≤x6_1)=true:=decide_eq_true c10
      clear c10
      replace H:=Option.bind_eq_some_iff.mp H
      obtain ⟨t500,A110,H⟩:=H
      replace H:(if t500=true then (slices_DeleteFunc_int64_int64_impl_newcomers_1.l0 k1 x0_1 x5_1 (wrap64 (x6_1+1)) l1_0) else (if 0≤x5_1 then (if x5_1<(x0_1.length:Int) then (slices_DeleteFunc_int64_int64_impl_newcomers_1.l0 k1 (x0_1.set (x5_1:Int).toNat (rd x0_1 x6_1)) (wrap64 (x5_1+1)) (wrap64 (x6_1+1)) l1_0) else (none)) else (none)))=some r:=H
      have A11:=Aside0.mk A110
      clear A110
      by_cases c12:t500=true
      ·subst c12
       have H1:(slices_DeleteFunc_int64_int64_impl_newcomers_1.l0 k1 x0_1 x5_1 (wrap64 (x6_1+1)) l1_0)=some r:=by rw [if_pos rfl] at H;exact H
       clear H
       have H:=H1
       clear H1
       have H':=Aside0.mk H
       clear H
       have p499:0≤(x6_1:Int):=of_decide_eq_true (z0_)
       have q499:x6_1<(x0_1.length:Int):=of_decide_eq_true (z0_)
       obtain ⟨ad499,e499,hx499_0⟩:=Kd.at_int (Kd.R_reads' HO_0.out).2.2 x6_1 p499 q499
       cases e499
       replace p499:=eq_true p499
       replace q499:=eq_true q499
       go_wp2_with (first | (go_at_call 88;(with_reducible refine (impl_newcomers_1_cap.calls k1 (rd x0_1 x6_1) gb1 A1_0 c1_0 l1_0 true _ ?s1 ?s2 ?s3 A11.out).mono ?_);(case s1=>repeat (first | exact (HR1_0.out _ HK.out) | (with_reducible refine Kd.C_alloc ?_ _) | (with_reducible refine Kd.C_drewN ?_ _) | (with_reducible refine Kd.C_drew ?_)));(case s2=>exact HC1_0.out);(case s3=>(with_reducible repeat (first | refine blk_drewN ?_ _ | refine blk_drew ?_ | refine blk_alloc ?_ _));exact BK61.out);rintro e w13 ⟨rfl,hb⟩;refine as4_ (Kd.R_below (z1_ HO_0.out) hb) (blkB_ BK61.out hb) (Kept.below (S:=(fun k_=>P0_ k_)) (by repeat (first | (with_reducible first | exact HK.out | apply Kept.alloc | apply Kept.drewN | apply Kept.drew | refine Kept.setCell ?_ (.inr GW61.out) _) | exact HK.out)) hb) (below_step (by repeat (first | (with_reducible first | exact HB.out | apply below_alloc | apply pw_below_drewN | apply below_drew1 | refine below_set ?_ GE61.out) | exact HB.out)) hb) ?_;clear HO_0 BK61 HK HB;intro HO_0 BK61 HK HB;(try clear hb)))
       (try simp only [← hl0_1])
       go_roundg k1
       case measure=>have:=HK1.out;omega
       case rel=>exact ⟨(x0_1),(x5_1),(wrap64 (x6_1+1)),(z2_),(z2_),H',⟨by have:=HK1.out;omega⟩,⟨z19_ HO_0.out⟩,⟨by (try simp only [hl0_1]);(with_reducible repeat (first | refine blk_drewN ?_ _ | refine blk_drew ?_ | refine blk_alloc ?_ _));exact BK61.out⟩,⟨by repeat (first | (with_reducible first | exact HK.out | apply Kept.alloc | apply Kept.drewN | apply Kept.drew | refine Kept.setCell ?_ (.inr GW61.out) _) | exact HK.out)⟩,⟨by repeat (first | (with_reducible first | exact HB.out | apply below_alloc | apply pw_below_drewN | apply below_drew1 | refine below_set ?_ GE61.out) | exact HB.out)⟩⟩
      ·replace c12:=Bool.eq_false_iff.mpr c12
       subst c12
       have H1:(if 0≤x5_1 then (if x5_1<(x0_1.length:Int) then (slices_DeleteFunc_int64_int64_impl_newcomers_1.l0 k1 (x0_1.set (x5_1:Int).toNat (rd x0_1 x6_1)) (wrap64 (x5_1+1)) (wrap64 (x6_1+1)) l1_0) else (none)) else (none))=some r:=by rw [if_neg (show ¬ (false=true) by decide)] at H;exact H
       clear H
       have H:=H1
       clear H1
       by_cases c14:0≤x5_1
       ·rw [if_pos c14] at H
        have c14b0:decide (0≤x5_1)=true:=decide_eq_true c14
        clear c14
        by_cases c15:x5_1<(x0_1.length:Int)
        ·rw [if_pos c15] at H
         have c15b0:decide (x5_1<(x0_1.length:Int))=true:=decide_eq_true c15
         clear c15
         obtain ⟨y501,hy501⟩:∃ y_:List Int,y_=(x0_1.set (x5_1:Int).toNat (rd x0_1 x6_1)):=⟨_,rfl⟩
         replace H:(slices_DeleteFunc_int64_int64_impl_newcomers_1.l0 k1 y501 (wrap64 (x5_1+1)) (wrap64 (x6_1+1)) l1_0)=some r:=by first | (rw [hy501];with_reducible exact H) | (have H2_:=(Option.bind_some _ _).symm.trans H;rw [hy501];with_reducible exact H2_) | (have H2_:=(Option.bind_some _ _).symm.trans H;with_reducible exact H2_) | with_reducible exact H | (rw [hy501];exact H) | exact H
         have Ny501:=Aside0.mk hy501
         clear hy501
         have H':=Aside0.mk H
         clear H
         have p499:0≤(x6_1:Int):=of_decide_eq_true (z0_)
         have q499:x6_1<(x0_1.length:Int):=of_decide_eq_true (z0_)
         obtain ⟨ad499,e499,hx499_0⟩:=Kd.at_int (Kd.R_reads' HO_0.out).2.2 x6_1 p499 q499
         cases e499
         replace p499:=eq_true p499
         replace q499:=eq_true q499
         go_wp2_with (first | (go_at_call 88;(with_reducible refine (impl_newcomers_1_cap.calls k1 (rd x0_1 x6_1) gb1 A1_0 c1_0 l1_0 false _ ?s1 ?s2 ?s3 A11.out).mono ?_);(case s1=>repeat (first | exact (HR1_0.out _ HK.out) | (with_reducible refine Kd.C_alloc ?_ _) | (with_reducible refine Kd.C_drewN ?_ _) | (with_reducible refine Kd.C_drew ?_)));(case s2=>exact HC1_0.out);(case s3=>(with_reducible repeat (first | refine blk_drewN ?_ _ | refine blk_drew ?_ | refine blk_alloc ?_ _));exact BK61.out);rintro e w17 ⟨rfl,hb⟩;refine as4_ (Kd.R_below (z1_ HO_0.out) hb) (blkB_ BK61.out hb) (Kept.below (S:=(fun k_=>P0_ k_)) (by repeat (first | (with_reducible first | exact HK.out | apply Kept.alloc | apply Kept.drewN | apply Kept.drew | refine Kept.setCell ?_ (.inr GW61.out) _) | exact HK.out)) hb) (below_step (by repeat (first | (with_reducible first | exact HB.out | apply below_alloc | apply pw_below_drewN | apply below_drew1 | refine below_set ?_ GE61.out) | exact HB.out)) hb) ?_;clear HO_0 BK61 HK HB;intro HO_0 BK61 HK HB;(try clear hb);have p16:0≤(x5_1:Int):=of_decide_eq_true (z0_);have q16:(x5_1:Int)<((x0_1.length:Int):Int):=of_decide_eq_true (z0_);obtain ⟨go16,co16,eo16,gb16,gl16,cl16,HG16⟩:=Kd.R_form HO_0.out (by omega);(first | cases eo16 | (injection eo16 with ea_ en_ ec_;(first | subst ea_ | (injection ea_ with ea_;subst ea_));subst ec_;clear en_));have GB16:=Aside0.mk gb16;have GG16:=Aside0.mk HG16;clear gb16 gl16 HG16;have HMgo16:=Aside0.mk (show (P0_ go16∨w.heap.size≤go16) from (HO_0.out.1 _ rfl));(first | simp only [add_plain] at hx499_0 | skip);obtain ⟨hx16_0,hf16_0⟩:=Kd.R_celln 0 HO_0.out (x5_1:Int) p16 q16;replace p16:=eq_true p16;replace q16:=eq_true q16;obtain ⟨hy18_,hz18_⟩:=Kd.R_celln 0 HO_0.out (x5_1:Int) (of_decide_eq_true (z0_)) (of_decide_eq_true (z0_));have HP18:=Kd.R_putg HO_0.out (x5_1:Int) (rd x0_1 x6_1)) | ((with_reducible refine gate_store (t:=2) (p:=33) rfl ?_);refine store_event (t:=2) (p:=33) (v:=?vo_w19) (w1:=(w17.setCell ⟨go16,(x5_1:Int).toNat,none⟩ (.int .i64 (rd x0_1 x6_1)))) ?hg ?ho ?hn ?hr ?_;(case ho=>rfl);(case hg=>rfl);(case hn=>rfl);(case hr=>first | (go_simp;done) | (go_simp;rfl));intro w19 hw;have hg:w17.grownBy w19 (some go16):=(by rw [hw];exact HP18.2);have hp_:Kd.R (Kd.int .i64) 2 w19 w0.heap.size (fun k_=>(P0_ k_∨w.heap.size≤k_)) (.slice (some ⟨go16,0,none⟩) x0_1.length co7) y501:=(by rw [hw,Ny501.out];exact HP18.1);clear HP18;refine as4_ (hp_) (blk_grown (g:=gb1) (o:=.cells #[.slice A1_0 l1_0.length c1_0] 37 (0,0)) (z3_ BK61.out) hg (Kd.R_ne HO_0.out BK61.out (by decide))) ((by rw [hw];exact below_set (HB.out) GB16.out:Below w0.heap.size w0 w19)) (Kept.of_grown (S:=(fun k_=>P0_ k_)) hg (by repeat (first | (with_reducible first | exact HK.out | apply Kept.alloc | apply Kept.drewN | apply Kept.drew | refine Kept.setCell ?_ (.inr GW61.out) _) | exact HK.out)) (fun k_ e_=>(HO_0.out.1 k_ e_))) ?_;clear HO_0 BK61 HB HK;intro HO_0 BK61 HB HK;clear hg hw hp_))
         (try simp only [← hl0_1])
         go_roundg k1
         case measure=>have:=HK1.out;omega
         case rel=>exact ⟨(y501),(wrap64 (x5_1+1)),(wrap64 (x6_1+1)),(z2_),(z2_),H',⟨by have:=HK1.out;omega⟩,⟨z19_ HO_0.out⟩,⟨by (try simp only [hl0_1]);(with_reducible repeat (first | refine blk_drewN ?_ _ | refine blk_drew ?_ | refine blk_alloc ?_ _));exact BK61.out⟩,⟨by repeat (first | (with_reducible first | exact HK.out | apply Kept.alloc | apply Kept.drewN | apply Kept.drew | refine Kept.setCell ?_ (.inr GW61.out) _) | exact HK.out)⟩,⟨by repeat (first | (with_reducible first | exact HB.out | apply below_alloc | apply pw_below_drewN | apply below_drew1 | refine below_set ?_ GE61.out) | exact HB.out)⟩⟩
        ·rw [if_neg c15] at H
         exact absurd H (by simp)
       ·rw [if_neg c14] at H
        exact absurd H (by simp)
     ·rw [if_neg c10] at H
      exact absurd H (by simp)
    ·rw [if_neg c9] at H
     have c9b0:decide (x6_1<(x0_1.length:Int))=false:=decide_eq_false c9
     clear c9
     by_cases c20:0≤x5_1
     ·rw [if_pos c20] at H
      have c20b0:=eq_true c20
      have c20b1:decide (0≤x5_1)=true:=decide_eq_true c20
      clear c20
      by_cases c21:x5_1≤(x0_1.length:Int)
      ·rw [if_pos c21] at H
       have c21b0:=eq_true c21
       have c21b1:decide (x5_1≤(x0_1.length:Int))=true:=decide_eq_true c21
       clear c21
       obtain ⟨y496,hy496⟩:∃ y_:List Int,y_=(x0_1.take (x5_1:Int).toNat):=⟨_,rfl⟩
       replace H:(some y496)=some r:=by first | (rw [hy496];with_reducible exact H) | (have H2_:=(Option.bind_some _ _).symm.trans H;rw [hy496];with_reducible exact H2_) | (have H2_:=(Option.bind_some _ _).symm.trans H;with_reducible exact H2_) | with_reducible exact H | (rw [hy496];exact H) | exact H
       have Ny496:=Aside0.mk hy496
       clear hy496
       obtain rfl:=Option.some.inj H
       have q22:(x5_1:Int)≤((x0_1.length:Int):Int):=of_decide_eq_true (z0_)
       obtain ⟨i022,hi022,_,hsz22,_⟩:=info_parts info2
       have hge_:(0:Int)≤x5_1:=of_decide_eq_true (z0_)
       have hcutc_:=cut_from (P:=Tryd.prog) 37 2 .i64 Tryd.underlying37 hi022 1 hsz22 Ao7 x0_1.length co7 x5_1 hge_ q22
       obtain ⟨wz_,xz_,hclr_,hlz_,htz_,hRz_,hKz_,hBz_⟩:=clear_row (P:=Tryd.prog) (ty:=0) Tryd.underlying37 (fun _=>by kernel_rfl) HO_0.out (fun _ hk=>hk) hge_ q22 HK.out HB.out
       obtain ⟨Az_,hAz_⟩:∃ A1,A1=(if co7=(x5_1:Int).toNat then Ao7 else (Ao7:Option Addr).map (·.add ((x5_1:Int).toNat*1))):=⟨_,rfl⟩
       obtain ⟨cz_,hcz_⟩:∃ c1,c1=co7-(x5_1:Int).toNat:=⟨_,rfl⟩
       obtain ⟨nz_,hnz_⟩:∃ n1,n1=x0_1.length-(x5_1:Int).toNat:=⟨_,rfl⟩
       rw [← hAz_,← hcz_,← hnz_] at hclr_
       rw [Nat.mul_one] at hAz_
       clear hcutc_
       have hA0_:=Aside0.mk hAz_
       have hc0_:=Aside0.mk hcz_
       have hn0_:=Aside0.mk hnz_
       clear hAz_ hcz_ hnz_
       have hcut22:=cut_to (P:=Tryd.prog) 37 2 .i64 Tryd.underlying37 hi022 Ao7 x0_1.length co7 x5_1 (of_decide_eq_true (z0_)) q22 (Kd.R_reads' HO_0.out).2.1
       have hr22:=Kd.R_take (m:=(x5_1:Int).toNat) hRz_ (by rw [hlz_];omega)
       rw [htz_] at hr22
       have hy22:y496.length=(x5_1:Int).toNat:=(by rw [Ny496.out,List.length_take];omega)
       rw [← Ny496.out] at hr22
       rw [← hy22] at hr22 hcut22
       clear hy22 hi022 hsz22 HO_0
       have HO498:=Aside0.mk hr22
       clear hr22
       replace q22:=eq_true q22
       go_wp2_with (first | ((with_reducible refine gd_ 38 ?_);refine Kd.event_run ?hg (v:=.slice Az_ nz_ cz_) (w1:=wr) ?hr ?_;(case hg=>rfl);(case hr=>first | (go_simp;done) | (go_simp;rw [hA0_.out,hc0_.out,hn0_.out];done) | (rw [hA0_.out,hc0_.out,hn0_.out];go_simp;first | done | rfl))) | ((with_reducible refine gate_builtin (b:=.clear) (xs:=#[.tmp 38]) rfl ?_);refine Kd.event_run ?hg (v:=.tuple #[]) (w1:=wz_) ?hr ?_;(case hg=>rfl);(case hr=>first | (go_simp;done) | (go_simp;rfl))))
       clear HB HK
       have HB:=Aside0.mk hBz_
       have HK:=Aside0.mk hKz_
       go_ret
       exact ⟨_,z10_,z1_ HO498.out,by repeat (first | (with_reducible first | exact HB.out | apply below_alloc | apply pw_below_drewN | apply below_drew1 | refine below_set ?_ GE61.out) | exact HB.out),by repeat (first | (with_reducible first | exact HK.out | apply Kept.alloc | apply Kept.drewN | apply Kept.drew | refine Kept.setCell ?_ (.inr GW61.out) _) | exact HK.out)⟩
      ·rw [if_neg c21] at H
       exact absurd H (by simp)
     ·rw [if_neg c20] at H
      exact absurd H (by simp)


/-! ### impl_newcomers: function 53 -/
def impl_newcomers.f (k:Nat) (a0_0:Int) (l0_1:List (S77)) (a1_0:Int) (l1_1:List (S77)) (a2:ByteArray) (a3:Int):Option (List Int):=(impl_owners.f k a0_0 l0_1 a2 a3).bind fun t1=>((impl_owners.f k a1_0 l1_1 a2 a3).bind fun t2=>((slices_Clone_int64_int64.f t2).bind fun t3=>(slices_DeleteFunc_int64_int64_impl_newcomers_1.f k t3 t1)))
theorem impl_newcomers.mono:∀ a0_0 l0_1 a1_0 l1_1 a2 a3 k,LeO (impl_newcomers.f k a0_0 l0_1 a1_0 l1_1 a2 a3) (impl_newcomers.f (k+1) a0_0 l0_1 a1_0 l1_1 a2 a3):=by
 intro a0_0 l0_1 a1_0 l1_1 a2 a3 k
 unfold impl_newcomers.f
 exact LeO.bind (impl_owners.mono _ _ _ _ _) (fun _=>LeO.bind (impl_owners.mono _ _ _ _ _) (fun _=>LeO.bind (LeO.refl _) (fun _=>slices_DeleteFunc_int64_int64_impl_newcomers_1.mono _ _ _)))
theorem cz1n_ {w:World} {g:Nat} {t:TypeId} {v0:Value} (h:w.heap[g]? = some (.cells #[v0] t (0,0))):w.cell? ⟨g,0,none⟩=some v0∧w.frozen? ⟨g,0,none⟩=false:=⟨blk_cell h 0,blk_frozen h 0⟩
theorem cz2n_ {w:World} {g:Nat} {t:TypeId} {v0 v1:Value} (h:w.heap[g]? = some (.cells #[v0,v1] t (0,0))):w.cell? ⟨g,0,none⟩=some v0∧w.cell? ⟨g,1,none⟩=some v1∧w.frozen? ⟨g,0,none⟩=false∧w.frozen? ⟨g,1,none⟩=false:=⟨blk_cell h 0,blk_cell h 1,blk_frozen h 0,blk_frozen h 1⟩
set_option maxHeartbeats 8000000 in
set_option maxRecDepth 100000 in
theorem impl_newcomers.calls (k:Nat) (a0_0:Int) (A0_1:Option Addr) (c0_1:Nat) (l0_1:List (S77)) (a1_0:Int) (A1_1:Option Addr) (c1_1:Nat) (l1_1:List (S77)) (a2:ByteArray) (a3:Int) (r:List Int) (w:World) (hr0_1:Kd.C k77 w A0_1 l0_1.length l0_1) (hc0_1:l0_1.length≤c0_1) (hr1_1:Kd.C k77 w A1_1 l1_1.length l1_1) (hc1_1:l1_1.length≤c1_1) (h:impl_newcomers.f k a0_0 l0_1 a1_0 l1_1 a2 a3=some r) :
  Calls Tryd.prog 53 #[.agg #[.int .i64 a0_0,.slice A0_1 l0_1.length c0_1],.agg #[.int .i64 a1_0,.slice A1_1 l1_1.length c1_1],.string a2,.int .i64 a3] w fun e w'=>∃ v0_:Value,e = .returned (v0_)∧Kd.R (Kd.int .i64) 2 w' w.heap.size (fun _=>True) v0_ r∧Below w.heap.size w w':=by
 have hu_:=Tryd.underlying24
 have HRa:=Aside0.mk hr0_1
 have HCa:=Aside0.mk hc0_1
 have HRb:=Aside0.mk hr1_1
 have HCb:=Aside0.mk hc1_1
 clear hr0_1 hc0_1 hr1_1 hc1_1
 have HBo:=Aside0.mk (Below.refl w.heap.size w)
 unfold impl_newcomers.f at h
 obtain ⟨t1,A1,h⟩:=Option.bind_eq_some_iff.mp h
 obtain ⟨t2,A2,h⟩:=Option.bind_eq_some_iff.mp h
 obtain ⟨t3,A3,A4⟩:=Option.bind_eq_some_iff.mp h
 clear h
 replace A1:=Aside0.mk A1
 replace A2:=Aside0.mk A2
 replace A3:=Aside0.mk A3
 replace A4:=Aside0.mk A4
 go_enter Tryd.func53,Tryd.ntmps53
 go_wp2_with (first | ((with_reducible refine gd_ 4 ?_);refine be_ 4 #[.int .i64 a0_0,.slice A0_1 l0_1.length c0_1] 24 ?_;intro ga hg w_ hbox hb;have HB:=Aside0.mk (below_step HBo.out hb);have BA:=Aside0.mk hbox;clear hb hbox hg) | ((with_reducible refine gd_ 5 ?_);refine be_ 5 #[.int .i64 a1_0,.slice A1_1 l1_1.length c1_1] 24 ?_;intro gb hg w_ hbox hb;have BA:=Aside0.mk (blk_below BA.out hb);have HB:=Aside0.mk (below_step HB.out hb);have BB:=Aside0.mk hbox;have ⟨hza_0,hza_1,hza_2,hza_3⟩:=cz2n_ BA.out;clear hb hbox hg) | ((with_reducible refine gc_ 85 ?_);refine gl_ (some 13) Tryd.func85 #[.agg #[.int .i64 a0_0,.slice A0_1 l0_1.length c0_1],.string a2,.int .i64 a3] ?_;(with_reducible refine (impl_owners.calls k a0_0 _ _ l0_1 a2 a3 t1 _ ?s1 ?s2 A1.out).mono ?_);(case s1=>exact Kd.C_below HRa.out HB.out);(case s2=>exact HCa.out);rintro e w_ ⟨v1,rfl,ho0,hb⟩;refine ⟨_,rfl,?_⟩;clear hza_0 hza_1 hza_2 hza_3;have HO1:=Aside0.mk (Kd.R_lower ho0 (below_size HB.out));have BB:=Aside0.mk (blk_below BB.out hb);have HB:=Aside0.mk (below_step HB.out hb);obtain ⟨Ao1,co1,eo1⟩:=Kd.R_slice HO1.out;subst eo1;clear ho0 hb) | ((with_reducible refine gd_ 9 ?_);refine be_ 9 #[.slice none 0 0] 37 ?_;intro gc hg w_ hbox hb;have HO1:=Aside0.mk (Kd.R_below HO1.out hb);have hne1_:gb≠gc:=(by rw [hg];exact Nat.ne_of_lt (blk_lt BB.out));have hne2_:gc≠gb:=(fun e_=>hne1_ e_.symm);have BB:=Aside0.mk (blk_below BB.out hb);have GC:=Aside0.mk (show w.heap.size≤gc by rw [hg];exact below_size HB.out);have HB:=Aside0.mk (below_step HB.out hb);have BC:=Aside0.mk hbox;have ⟨hzc_0,hzc_1⟩:=cz1n_ BC.out;have ⟨hzb_0,hzb_1,hzb_2,hzb_3⟩:=cz2n_ BB.out;clear hb hbox hg) | ((with_reducible refine gc_ 85 ?_);refine gl_ (some 17) Tryd.func85 #[.agg #[.int .i64 a1_0,.slice A1_1 l1_1.length c1_1],.string a2,.int .i64 a3] ?_;(with_reducible refine (impl_owners.calls k a1_0 _ _ l1_1 a2 a3 t2 _ ?s1 ?s2 A2.out).mono ?_);(case s1=>exact Kd.C_below HRb.out (below_set HB.out GC.out));(case s2=>exact HCb.out);rintro e w_ ⟨v2,rfl,ho0,hb⟩;refine ⟨_,rfl,?_⟩;clear hzb_0 hzb_1 hzb_2 hzb_3 hzc_0 hzc_1;have HB1:=Aside0.mk (below_set HB.out GC.out (j:=0) (v:=.slice Ao1 t1.length co1));have HO2:=Aside0.mk (Kd.R_lower ho0 (below_size HB1.out));have HO1:=Aside0.mk (Kd.R_below (Kd.R_set HO1.out BC.out (by decide) 0 (.slice Ao1 t1.length co1)) hb);have BC:=Aside0.mk (blk_below (blk_put (cs':=#[.slice Ao1 t1.length co1]) BC.out 0 (.slice Ao1 t1.length co1) rfl) hb);clear HB;have HB:=Aside0.mk (below_step HB1.out hb);obtain ⟨Ao2,co2,eo2⟩:=Kd.R_slice HO2.out;subst eo2;clear ho0 hb) | ((with_reducible refine gc_ 87 ?_);refine gl_ (some 18) Tryd.func87 #[.slice Ao2 t2.length co2] ?_;(with_reducible refine (slices_Clone_int64_int64.calls _ _ t2 t3 _ ?s1 ?s2 A3.out).mono ?_);(case s1=>exact (Kd.R_reads' HO2.out).2.2);(case s2=>exact (Kd.R_reads' HO2.out).2.1);rintro e w_ ⟨v3,rfl,ho0,hb⟩;refine ⟨_,rfl,?_⟩;have HO3:=Aside0.mk (Kd.R_lower ho0 (below_size HB.out));have HO1:=Aside0.mk (Kd.R_elder' HO1.out (Kd.R_base ho0) hb);have BC:=Aside0.mk (blk_below BC.out hb);have HB:=Aside0.mk (below_step HB.out hb);obtain ⟨Ao3,co3,eo3⟩:=Kd.R_slice HO3.out;subst eo3;clear ho0 hb) | ((with_reducible refine gc_ 86 ?_);refine gl_ (some 20) Tryd.func86 #[.slice Ao3 t3.length co3,.func (.func 88) #[] #[.pointer (some ⟨gc,0,none⟩)]] ?_;(with_reducible refine (slices_DeleteFunc_int64_int64_impl_newcomers_1.calls k (fun k_=>some k_=(.slice Ao3 t3.length co3:Value).ownBlock) (.slice Ao3 t3.length co3) t3 gc Ao1 co1 t1 r w _ ?s1 ?s2 ?s3 ?s4 ?s5 A4.out).mono ?_);(case s1=>exact HB.out);(case s2=>exact Kd.R_tight rfl HO3.out);(case s3=>exact fun W_ hk_=>(Kd.R_reads' (Kd.R_keptB HO1.out hk_ (fun k_ h_ hs_=>h_.2 hs_))).2.2);(case s4=>exact (Kd.R_reads' HO1.out).2.1);(case s5=>exact BC.out);rintro e w_ ⟨v4,rfl,ho0,hb,hkp⟩;refine ⟨_,rfl,?_⟩;have HO4:=Aside0.mk (Kd.R_mono ho0 (fun _ _=>trivial));have HB4:=Aside0.mk hb;clear ho0 hb hkp))
 go_ret
 exact ⟨_,by first | rfl | (simp;done),HO4.out,HB4.out⟩


/-! ### impl_Newcomers: function 19 -/
def impl_Newcomers.j0:Nat→ByteArray→Int→Bool→Int→List (S77)→Int→List (S77)→Option (List Int)
 | 0,_,_,_,_,_,_,_=>none
 | k+1,x2,x3,x22,x503000,x503001,x504000,x504001=>if x22=true then (some ([]:List Int)) else ((impl_newcomers.f k x503000 x503001 x504000 x504001 x2 x3).bind fun t507=>(some t507))
def impl_Newcomers.f (k:Nat) (a0_0:Int) (l0_1:List (S77)) (a1_0:Int) (l1_1:List (S77)) (a2:ByteArray) (a3:Int):Option (List Int):=(impl_isKeyed.f k a0_0 l0_1 a2).bind fun t504=>(if t504=true then ((impl_RingRight.f k a1_0 l1_1).bind fun t505=>(if t505=true then ((impl_isNode.f a3).bind fun t506=>(impl_Newcomers.j0 k a2 a3 (!t506) a0_0 l0_1 a1_0 l1_1)) else (impl_Newcomers.j0 k a2 a3 true a0_0 l0_1 a1_0 l1_1))) else (impl_Newcomers.j0 k a2 a3 true a0_0 l0_1 a1_0 l1_1))
theorem impl_Newcomers.mono_l:∀ k,(∀ y0 y1 y2 y3 y4 y5 y6,LeO (impl_Newcomers.j0 k y0 y1 y2 y3 y4 y5 y6) (impl_Newcomers.j0 (k+1) y0 y1 y2 y3 y4 y5 y6))
 | 0=>fun _ _ _ _ _ _ _ r h=>by simp [impl_Newcomers.j0] at h
 | k+1=>by
  have ih0:=impl_Newcomers.mono_l k
  ·intro y0 y1 y2 y3 y4 y5 y6
   unfold impl_Newcomers.j0
   repeat' first
   | (with_reducible exact ih0 _ _ _ _ _ _ _)
   | (with_reducible exact impl_RingRight.mono _ _ _)
   | (with_reducible exact impl_isKeyed.mono _ _ _ _)
   | (with_reducible exact impl_newcomers.mono _ _ _ _ _ _ _)
   | (with_reducible exact LeO.refl _)
   | (with_reducible exact LeO.none _)
   | (with_reducible refine LeO.ite ?_ ?_)
   | (with_reducible refine LeO.bind ?_ (fun _=>?_))
   | exact ih0 _ _ _ _ _ _ _
   | exact impl_RingRight.mono _ _ _
   | exact impl_isKeyed.mono _ _ _ _
   | exact impl_newcomers.mono _ _ _ _ _ _ _
   | exact LeO.none _
   | refine LeO.ite ?_ ?_
   | refine LeO.bind ?_ (fun _=>?_)
theorem impl_Newcomers.mono:∀ a0 a1 a2 a3 a4 a5 k,LeO (impl_Newcomers.f k a0 a1 a2 a3 a4 a5) (impl_Newcomers.f (k+1) a0 a1 a2 a3 a4 a5):=by
 intro a0 a1 a2 a3 a4 a5 k
 have ih0:=impl_Newcomers.mono_l k
 unfold impl_Newcomers.f
 repeat' first
   | (with_reducible exact ih0 _ _ _ _ _ _ _)
   | (with_reducible exact impl_RingRight.mono _ _ _)
   | (with_reducible exact impl_isKeyed.mono _ _ _ _)
   | (with_reducible exact impl_newcomers.mono _ _ _ _ _ _ _)
   | (with_reducible exact LeO.refl _)
   | (with_reducible exact LeO.none _)
   | (with_reducible refine LeO.ite ?_ ?_)
   | (with_reducible refine LeO.bind ?_ (fun _=>?_))
   | exact ih0 _ _ _ _ _ _ _
   | exact impl_RingRight.mono _ _ _
   | exact impl_isKeyed.mono _ _ _ _
   | exact impl_newcomers.mono _ _ _ _ _ _ _
   | exact LeO.none _
   | refine LeO.ite ?_ ?_
   | refine LeO.bind ?_ (fun _=>?_)
set_option maxHeartbeats 8000000 in
set_option maxRecDepth 100000 in
theorem impl_Newcomers.calls (k:Nat) (a0_0:Int) (A0_1:Option Addr) (c0_1:Nat) (l0_1:List (S77)) (a1_0:Int) (A1_1:Option Addr) (c1_1:Nat) (l1_1:List (S77)) (a2:ByteArray) (a3:Int) (r:List Int) (w:World) (hr0_1:Kd.C k77 w A0_1 l0_1.length l0_1) (hc0_1:l0_1.length≤c0_1) (hr1_1:Kd.C k77 w A1_1 l1_1.length l1_1) (hc1_1:l1_1.length≤c1_1) (h:impl_Newcomers.f k a0_0 l0_1 a1_0 l1_1 a2 a3=some r) :
  Calls Tryd.prog 19 #[.agg #[.int .i64 a0_0,.slice A0_1 l0_1.length c0_1],.agg #[.int .i64 a1_0,.slice A1_1 l1_1.length c1_1],.string a2,.int .i64 a3] w fun e w'=>∃ v0_:Value,e = .returned (v0_)∧Kd.R (Kd.int .i64) 2 w' w.heap.size (fun _=>True) v0_ r∧Below w.heap.size w w':=by
 have hu24:=Tryd.underlying24
 have HR0_1:=Aside0.mk hr0_1
 have HC0_1:=Aside0.mk hc0_1
 clear hr0_1 hc0_1
 have HR1_1:=Aside0.mk hr1_1
 have HC1_1:=Aside0.mk hc1_1
 clear hr1_1 hc1_1
 have HB:=Aside0.mk (Below.refl w.heap.size w)
 have H:((impl_isKeyed.f k a0_0 l0_1 a2).bind fun t504=>(if t504=true then ((impl_RingRight.f k a1_0 l1_1).bind fun t505=>(if t505=true then ((impl_isNode.f a3).bind fun t506=>(impl_Newcomers.j0 k a2 a3 (!t506) a0_0 l0_1 a1_0 l1_1)) else (impl_Newcomers.j0 k a2 a3 true a0_0 l0_1 a1_0 l1_1))) else (impl_Newcomers.j0 k a2 a3 true a0_0 l0_1 a1_0 l1_1)))=some r:=h
 clear h
 have HC5:=Aside0.mk H
 clear H
 go_enter Tryd.func19,Tryd.ntmps19
 go_upto_region 1 with (first | ((with_reducible refine gd_ 4 ?_);refine be_ 4 #[.int .i64 a0_0,.slice A0_1 l0_1.length c0_1] 24 ?_;intro gb502 hg w6 hbox hb;refine as4_ (below_step (z4_ HB.out) hb) (hbox) ((z8_ HB.out:w.heap.size≤gb502)) ((z8_ HB.out:w.heap.size≤gb502)) ?_;clear HB;intro HB BK502 GW502 GE502;clear hb hbox hg) | ((with_reducible refine gd_ 5 ?_);refine be_ 5 #[.int .i64 a1_0,.slice A1_1 l1_1.length c1_1] 24 ?_;intro gb503 hg w7 hbox hb;refine as7_ (blkB_ BK502.out hb) (below_step (z7_ HB.out GE502.out) hb) (hbox) ((z11_ HB.out GE502.out:w.heap.size≤gb503)) ((z11_ HB.out GE502.out:w.heap.size≤gb503)) (neL_ BK502.out hg) (neG_ BK502.out hg) ?_;clear BK502 HB;intro BK502 HB BK503 GW503 GE503 NB502_503 NB503_502;clear hb hbox hg))
 (try simp only [Act.put,sa_,s0_,ss_])
 go_cut [22] (fun v22 wc=>∃ (kq:Nat) (x22_4:Bool),v22 = .bool x22_4∧Aside0 (impl_Newcomers.j0 kq a2 a3 x22_4 a0_0 l0_1 a1_0 l1_1=some r)∧Aside0 (kq≤k)∧Aside0 (wc.heap[gb502]? = some (.cells #[.int .i64 a0_0,(.slice A0_1 l0_1.length c0_1)] 24 (0,0)))∧Aside0 (wc.heap[gb503]? = some (.cells #[.int .i64 a1_0,(.slice A1_1 l1_1.length c1_1)] 24 (0,0)))∧Aside0 (Below w.heap.size w wc))
 case first =>
  have H:=HC5.out
  clear HC5
  replace H:=Option.bind_eq_some_iff.mp H
  obtain ⟨t504,A80,H⟩:=H
  replace H:(if t504=true then ((impl_RingRight.f k a1_0 l1_1).bind fun t505=>(if t505=true then ((impl_isNode.f a3).bind fun t506=>(impl_Newcomers.j0 k a2 a3 (!t506) a0_0 l0_1 a1_0 l1_1)) else (impl_Newcomers.j0 k a2 a3 true a0_0 l0_1 a1_0 l1_1))) else (impl_Newcomers.j0 k a2 a3 true a0_0 l0_1 a1_0 l1_1))=some r:=H
  have A8:=Aside0.mk A80
  clear A80
  by_cases c9:t504=true
  ·subst c9
   have H1:((impl_RingRight.f k a1_0 l1_1).bind fun t505=>(if t505=true then ((impl_isNode.f a3).bind fun t506=>(impl_Newcomers.j0 k a2 a3 (!t506) a0_0 l0_1 a1_0 l1_1)) else (impl_Newcomers.j0 k a2 a3 true a0_0 l0_1 a1_0 l1_1)))=some r:=by rw [if_pos rfl] at H;exact H
   clear H
   have H:=H1
   clear H1
   replace H:=Option.bind_eq_some_iff.mp H
   obtain ⟨t505,A100,H⟩:=H
   replace H:(if t505=true then ((impl_isNode.f a3).bind fun t506=>(impl_Newcomers.j0 k a2 a3 (!t506) a0_0 l0_1 a1_0 l1_1)) else (impl_Newcomers.j0 k a2 a3 true a0_0 l0_1 a1_0 l1_1))=some r:=H
   have A10:=Aside0.mk A100
   clear A100
   by_cases c11:t505=true
   ·subst c11
    have H1:((impl_isNode.f a3).bind fun t506=>(impl_Newcomers.j0 k a2 a3 (!t506) a0_0 l0_1 a1_0 l1_1))=some r:=by rw [if_pos rfl] at H;exact H
    clear H
    have H:=H1
    clear H1
    replace H:=Option.bind_eq_some_iff.mp H
    obtain ⟨t506,A120,H⟩:=H
    replace H:(impl_Newcomers.j0 k a2 a3 (!t506) a0_0 l0_1 a1_0 l1_1)=some r:=H
    have A12:=Aside0.mk A120
    clear A120
    have H':=Aside0.mk H
    clear H
    have hnb13:=NB502_503.out
    have hnc13:=NB503_502.out
    have ⟨hcz14_0,hcz14_1,hfz14_0,hfz14_1⟩:=cz2_ BK502.out
    go_wp2_with (first | ((with_reducible refine gc_ 52 ?_);refine gl_ (some 11) Tryd.func52 #[.agg #[.int .i64 a0_0,.slice A0_1 l0_1.length c0_1],.string a2] ?_;(with_reducible refine (impl_isKeyed.calls k a0_0 _ _ l0_1 a2 true _ ?s1 ?s2 A8.out).mono ?_);(case s1=>repeat (first | exact (Kd.C_below HR0_1.out HB.out) | (with_reducible refine Kd.C_alloc ?_ _) | (with_reducible refine Kd.C_drewN ?_ _) | (with_reducible refine Kd.C_drew ?_)));(case s2=>exact HC0_1.out);rintro e w15 ⟨rfl,hb⟩;refine ⟨_,rfl,?_⟩;refine as3_ (blkB_ BK502.out hb) (blkB_ BK503.out hb) (below_step (z5_ HB.out GE502.out GE503.out) hb) ?_;clear BK502 BK503 HB;intro BK502 BK503 HB;(try clear hb);have ⟨hcz16_0,hcz16_1,hfz16_0,hfz16_1⟩:=cz2_ BK503.out) | (go_at_call 47;(with_reducible refine (impl_RingRight.calls k a1_0 _ _ l1_1 true _ ?s1 ?s2 A10.out).mono ?_);(case s1=>repeat (first | exact (Kd.C_below HR1_1.out HB.out) | (with_reducible refine Kd.C_alloc ?_ _) | (with_reducible refine Kd.C_drewN ?_ _) | (with_reducible refine Kd.C_drew ?_)));(case s2=>exact HC1_1.out);rintro e w17 ⟨rfl,hb⟩;refine as3_ (blkB_ BK502.out hb) (blkB_ BK503.out hb) (below_step (z5_ HB.out GE502.out GE503.out) hb) ?_;clear BK502 BK503 HB;intro BK502 BK503 HB;(try clear hb)) | (go_at_call 41;(with_reducible refine (impl_isNode.calls a3 t506 _ A12.out).mono ?_);rintro e w' ⟨rfl,⟨nd,rfl⟩⟩))
    go_meet
    case rel=>exact ⟨_,(!t506),(z2_),H',⟨by first | omega | exact Nat.le_refl _⟩,⟨z3_ BK502.out⟩,⟨z3_ BK503.out⟩,⟨z5_ HB.out GE502.out GE503.out⟩⟩
   ·replace c11:=Bool.eq_false_iff.mpr c11
    subst c11
    have H1:(impl_Newcomers.j0 k a2 a3 true a0_0 l0_1 a1_0 l1_1)=some r:=by rw [if_neg (show ¬ (false=true) by decide)] at H;exact H
    clear H
    have H:=H1
    clear H1
    have H':=Aside0.mk H
    clear H
    have hnb18:=NB502_503.out
    have hnc18:=NB503_502.out
    have ⟨hcz19_0,hcz19_1,hfz19_0,hfz19_1⟩:=cz2_ BK502.out
    go_wp2_with (first | ((with_reducible refine gc_ 52 ?_);refine gl_ (some 11) Tryd.func52 #[.agg #[.int .i64 a0_0,.slice A0_1 l0_1.length c0_1],.string a2] ?_;(with_reducible refine (impl_isKeyed.calls k a0_0 _ _ l0_1 a2 true _ ?s1 ?s2 A8.out).mono ?_);(case s1=>repeat (first | exact (Kd.C_below HR0_1.out HB.out) | (with_reducible refine Kd.C_alloc ?_ _) | (with_reducible refine Kd.C_drewN ?_ _) | (with_reducible refine Kd.C_drew ?_)));(case s2=>exact HC0_1.out);rintro e w20 ⟨rfl,hb⟩;refine ⟨_,rfl,?_⟩;refine as3_ (blkB_ BK502.out hb) (blkB_ BK503.out hb) (below_step (z5_ HB.out GE502.out GE503.out) hb) ?_;clear BK502 BK503 HB;intro BK502 BK503 HB;(try clear hb);have ⟨hcz21_0,hcz21_1,hfz21_0,hfz21_1⟩:=cz2_ BK503.out) | (go_at_call 47;(with_reducible refine (impl_RingRight.calls k a1_0 _ _ l1_1 false _ ?s1 ?s2 A10.out).mono ?_);(case s1=>repeat (first | exact (Kd.C_below HR1_1.out HB.out) | (with_reducible refine Kd.C_alloc ?_ _) | (with_reducible refine Kd.C_drewN ?_ _) | (with_reducible refine Kd.C_drew ?_)));(case s2=>exact HC1_1.out);rintro e w22 ⟨rfl,hb⟩;refine as3_ (blkB_ BK502.out hb) (blkB_ BK503.out hb) (below_step (z5_ HB.out GE502.out GE503.out) hb) ?_;clear BK502 BK503 HB;intro BK502 BK503 HB;(try clear hb)))
    go_meet
    case rel=>exact ⟨_,(true),(z2_),H',⟨by first | omega | exact Nat.le_refl _⟩,⟨z3_ BK502.out⟩,⟨z3_ BK503.out⟩,⟨z5_ HB.out GE502.out GE503.out⟩⟩
  ·replace c9:=Bool.eq_false_iff.mpr c9
   subst c9
   have H1:(impl_Newcomers.j0 k a2 a3 true a0_0 l0_1 a1_0 l1_1)=some r:=by rw [if_neg (show ¬ (false=true) by decide)] at H;exact H
   clear H
   have H:=H1
   clear H1
   have H':=Aside0.mk H
   clear H
   have hnb23:=NB502_503.out
   have hnc23:=NB503_502.out
   have ⟨hcz24_0,hcz24_1,hfz24_0,hfz24_1⟩:=cz2_ BK502.out
   go_wp2_with (first | ((with_reducible refine gc_ 52 ?_);refine gl_ (some 11) Tryd.func52 #[.agg #[.int .i64 a0_0,.slice A0_1 l0_1.length c0_1],.string a2] ?_;(with_reducible refine (impl_isKeyed.calls k a0_0 _ _ l0_1 a2 false _ ?s1 ?s2 A8.out).mono ?_);(case s1=>repeat (first | exact (Kd.C_below HR0_1.out HB.out) | (with_reducible refine Kd.C_alloc ?_ _) | (with_reducible refine Kd.C_drewN ?_ _) | (with_reducible refine Kd.C_drew ?_)));(case s2=>exact HC0_1.out);rintro e w25 ⟨rfl,hb⟩;refine ⟨_,rfl,?_⟩;refine as3_ (blkB_ BK502.out hb) (blkB_ BK503.out hb) (below_step (z5_ HB.out GE502.out GE503.out) hb) ?_;clear BK502 BK503 HB;intro BK502 BK503 HB;(try clear hb)))
   go_meet
   case rel=>exact ⟨_,(true),(z2_),H',⟨by first | omega | exact Nat.le_refl _⟩,⟨z3_ BK502.out⟩,⟨z3_ BK503.out⟩,⟨z5_ HB.out GE502.out GE503.out⟩⟩
 case rest =>
  clear HC5
  try clear c1
  try clear c2
  try clear p2
  try clear c5
  try clear c9
  try clear c11
  try clear c13
  try clear c18
  try clear c19
  try clear c23
  try clear hcz14_0
  try clear hcz14_1
  try clear hcz16_0
  try clear hcz16_1
  try clear hcz19_0
  try clear hcz19_1
  try clear hcz21_0
  try clear hcz21_1
  try clear hcz24_0
  try clear hcz24_1
  try clear hfz14_0
  try clear hfz14_1
  try clear hfz16_0
  try clear hfz16_1
  try clear hfz19_0
  try clear hfz19_1
  try clear hfz21_0
  try clear hfz21_1
  try clear hfz24_0
  try clear hfz24_1
  obtain ⟨kq,x22_4,rfl,HA,HJ4,BK502,BK503,HB⟩:=hcut
  cases kq with
  | zero=>exact absurd HA.out (by simp [impl_Newcomers.j0])
  | succ kj4 =>
   have H:=HA.out
   clear HA
   simp only [impl_Newcomers.j0] at H
   by_cases c26:x22_4=true
   ·subst c26
    have H1:(some ([]:List Int))=some r:=by rw [if_pos rfl] at H;exact H
    clear H
    have H:=H1
    clear H1
    obtain rfl:=Option.some.inj H
    go_wp2
    go_ret
    exact ⟨_,z10_,z37_,z5_ HB.out GE502.out GE503.out⟩
   ·replace c26:=Bool.eq_false_iff.mpr c26
    subst c26
    have H1:((impl_newcomers.f kj4 a0_0 l0_1 a1_0 l1_1 a2 a3).bind fun t507=>(some t507))=some r:=by rw [if_neg (show ¬ (false=true) by decide)] at H;exact H
    clear H
    have H:=H1
    clear H1
    replace H:=Option.bind_eq_some_iff.mp H
    obtain ⟨t507,A270,H⟩:=H
    replace H:(some t507)=some r:=H
    have A27:=Aside0.mk A270
    clear A270
    obtain rfl:=Option.some.inj H
    have hnb28:=NB502_503.out
    have hnc28:=NB503_502.out
    have ⟨hcz29_0,hcz29_1,hfz29_0,hfz29_1⟩:=cz2_ BK502.out
    have ⟨hcz30_0,hcz30_1,hfz30_0,hfz30_1⟩:=cz2_ BK503.out
    go_wp2_with (first | ((with_reducible refine gc_ 53 ?_);refine gl_ (some 27) Tryd.func53 #[.agg #[.int .i64 a0_0,.slice A0_1 l0_1.length c0_1],.agg #[.int .i64 a1_0,.slice A1_1 l1_1.length c1_1],.string a2,.int .i64 a3] ?_;(with_reducible refine (impl_newcomers.calls kj4 a0_0 _ _ l0_1 a1_0 _ _ l1_1 a2 a3 t507 _ ?s1 ?s2 ?s3 ?s4 A27.out).mono ?_);(case s1=>repeat (first | exact (Kd.C_below HR0_1.out HB.out) | (with_reducible refine Kd.C_alloc ?_ _) | (with_reducible refine Kd.C_drewN ?_ _) | (with_reducible refine Kd.C_drew ?_)));(case s2=>exact HC0_1.out);(case s3=>repeat (first | exact (Kd.C_below HR1_1.out HB.out) | (with_reducible refine Kd.C_alloc ?_ _) | (with_reducible refine Kd.C_drewN ?_ _) | (with_reducible refine Kd.C_drew ?_)));(case s4=>exact HC1_1.out);rintro e w31 ⟨v508,rfl,ho0,hb⟩;refine ⟨_,rfl,?_⟩;refine as4_ (Kd.R_lower ho0 (below_size (z5_ HB.out GE502.out GE503.out))) (blkB_ BK502.out hb) (blkB_ BK503.out hb) (below_step (z5_ HB.out GE502.out GE503.out) hb) ?_;clear BK502 BK503 HB;intro HO509 BK502 BK503 HB;(try clear hb);(try clear ho0)))
    go_ret
    exact ⟨_,z10_,z1_ HO509.out,z5_ HB.out GE502.out GE503.out⟩


/-! ### spec_l02Is: function 39 -/
def spec_l02Is.f (a0:Int) (a1:Int) (a2:Int):Option (Bool):=if a0≥a1 then (some (decide (a0≤a2))) else (some false)
set_option maxHeartbeats 8000000 in
set_option maxRecDepth 100000 in
theorem spec_l02Is.calls (a0:Int) (a1:Int) (a2:Int) (r:Bool) (w:World) (h:spec_l02Is.f a0 a1 a2=some r) :
  Calls Tryd.prog 39 #[.int .i64 a0,.int .i64 a1,.int .i64 a2] w fun e w'=>e = .returned (.bool r)∧Drawn0 w w':=by
 have H:(if a0≥a1 then (some (decide (a0≤a2))) else (some false))=some r:=h
 clear h
 by_cases c4:a0≥a1
 ·rw [if_pos c4] at H
  have c4b0:decide (a1≤a0)=true:=decide_eq_true c4
  clear c4
  obtain rfl:=Option.some.inj H
  go_enter Tryd.func39,Tryd.ntmps39
  go_wp2
  go_ret
  exact ⟨z2_,z6_⟩
 ·rw [if_neg c4] at H
  have c4b0:decide (a1≤a0)=false:=decide_eq_false c4
  clear c4
  obtain rfl:=Option.some.inj H
  go_enter Tryd.func39,Tryd.ntmps39
  go_wp2
  go_ret
  exact ⟨z2_,z6_⟩


/-! ### spec_l02Node: function 38 -/
def spec_l02Node.f (a0:Int):Option (Bool):=(spec_l02Is.f a0 1 5).bind fun t101=>(some t101)
set_option maxHeartbeats 8000000 in
set_option maxRecDepth 100000 in
theorem spec_l02Node.calls (a0:Int) (r:Bool) (w:World) (h:spec_l02Node.f a0=some r) :
  Calls Tryd.prog 38 #[.int .i64 a0] w fun e w'=>e = .returned (.bool r)∧Drawn0 w w':=by
 have H:((spec_l02Is.f a0 1 5).bind fun t101=>(some t101))=some r:=h
 clear h
 replace H:=Option.bind_eq_some_iff.mp H
 obtain ⟨t101,A20,H⟩:=H
 replace H:(some t101)=some r:=H
 have A2:=Aside0.mk A20
 clear A20
 obtain rfl:=Option.some.inj H
 go_enter Tryd.func38,Tryd.ntmps38
 go_wp2_with (first | ((with_reducible refine gc_ 39 ?_);refine gl_ (some 4) Tryd.func39 #[.int .i64 a0,.int .i64 1,.int .i64 5] ?_;(with_reducible refine (spec_l02Is.calls a0 1 5 t101 _ A2.out).mono ?_);rintro e w' ⟨rfl,⟨nd,rfl⟩⟩;refine ⟨_,rfl,?_⟩))
 go_ret
 exact ⟨z2_,z6_⟩


/-! ### spec_l04Fnv: function 73 -/
def spec_l04Fnv.l0:Nat→ByteArray→Int→Int→Option (Int)
 | 0,_,_,_=>none
 | k+1,x0,x3,x4=>if x4<(x0.size:Int) then (if 0≤x4 then (spec_l04Fnv.l0 k x0 (Int.tmod (wrap64 ((Go.bits .xor .i64 x3 (wrap64 (bt x0 x4)))*16777619)) 4294967296) (wrap64 (x4+1))) else (none)) else (some x3)
def spec_l04Fnv.f (k:Nat) (a0:ByteArray):Option (Int):=spec_l04Fnv.l0 k a0 2166136261 0
theorem spec_l04Fnv.mono_l:∀ k,(∀ y0 y1 y2,LeO (spec_l04Fnv.l0 k y0 y1 y2) (spec_l04Fnv.l0 (k+1) y0 y1 y2))
 | 0=>fun _ _ _ r h=>by simp [spec_l04Fnv.l0] at h
 | k+1=>by
  have ih0:=spec_l04Fnv.mono_l k
  ·intro y0 y1 y2
   unfold spec_l04Fnv.l0
   repeat' first
   | (with_reducible exact ih0 _ _ _)
   | (with_reducible exact LeO.refl _)
   | (with_reducible exact LeO.none _)
   | (with_reducible refine LeO.ite ?_ ?_)
   | (with_reducible refine LeO.bind ?_ (fun _=>?_))
   | exact ih0 _ _ _
   | exact LeO.none _
   | refine LeO.ite ?_ ?_
   | refine LeO.bind ?_ (fun _=>?_)
theorem spec_l04Fnv.mono:∀ a0 k,LeO (spec_l04Fnv.f k a0) (spec_l04Fnv.f (k+1) a0):=by
 intro a0 k
 have ih0:=spec_l04Fnv.mono_l k
 unfold spec_l04Fnv.f
 repeat' first
   | (with_reducible exact ih0 _ _ _)
   | (with_reducible exact LeO.refl _)
   | (with_reducible exact LeO.none _)
   | (with_reducible refine LeO.ite ?_ ?_)
   | (with_reducible refine LeO.bind ?_ (fun _=>?_))
   | exact ih0 _ _ _
   | exact LeO.none _
   | refine LeO.ite ?_ ?_
   | refine LeO.bind ?_ (fun _=>?_)
set_option maxHeartbeats 8000000 in
set_option maxRecDepth 100000 in
theorem spec_l04Fnv.calls (k:Nat) (a0:ByteArray) (r:Int) (w:World) (h:spec_l04Fnv.f k a0=some r) :
  Calls Tryd.prog 73 #[.string a0] w fun e w'=>e = .returned (.int .i64 r)∧Drawn0 w w':=by
 have H:(spec_l04Fnv.l0 k a0 2166136261 0)=some r:=h
 clear h
 have H':=Aside0.mk H
 clear H
 go_enter Tryd.func73,Tryd.ntmps73
 go_wp2
 go_loopg [3,4] k (fun kq v3 v4 w'=>∃ (x3_1:Int) (x4_1:Int),v3 = .int .i64 x3_1∧v4 = .int .i64 x4_1∧Aside0 (spec_l04Fnv.l0 kq a0 x3_1 x4_1=some r)∧Aside0 (kq≤k)∧Drawn0 w w')
 case atStart=>exact ⟨(2166136261),(0),(z2_),(z2_),H',⟨Nat.le_refl _⟩,z6_⟩
 case round =>
  clear H'
  obtain ⟨x3_1,x4_1,rfl,rfl,HA,HK1,⟨m1,rfl⟩⟩:=hrel
  cases gk with
  | zero=>exact absurd HA.out (by simp [spec_l04Fnv.l0])
  | succ k1 =>
   have H:=HA.out
   clear HA
   simp only [spec_l04Fnv.l0] at H
   by_cases c2:x4_1<(a0.size:Int)
   ·rw [if_pos c2] at H
    have c2b0:decide (x4_1<(a0.size:Int))=true:=decide_eq_true c2
    clear c2
    by_cases c3:0≤x4_1
    ·rw [if_pos c3] at H
     have c3b0:decide (0≤x4_1)=true:=decide_eq_true c3
     clear c3
     have H':=Aside0.mk H
     clear H
     have p4:0≤(x4_1:Int):=of_decide_eq_true (z0_)
     have q4:x4_1<(a0.size:Int):=of_decide_eq_true (z0_)
     have hx4:=bt_at a0 x4_1
     replace p4:=eq_true p4
     replace q4:=eq_true q4
     go_wp2
     go_roundg k1
     case measure=>have:=HK1.out;omega
     case rel=>exact ⟨(Int.tmod (wrap64 ((Go.bits .xor .i64 x3_1 (wrap64 (bt a0 x4_1)))*16777619)) 4294967296),(wrap64 (x4_1+1)),(z2_),(z2_),H',⟨by have:=HK1.out;omega⟩,z6_⟩
    ·rw [if_neg c3] at H
     exact absurd H (by simp)
   ·rw [if_neg c2] at H
    have c2b0:decide (x4_1<(a0.size:Int))=false:=decide_eq_false c2
    clear c2
    obtain rfl:=Option.some.inj H
    go_wp2
    go_ret
    exact ⟨z2_,z6_⟩


/-! ### spec_l01Dec: function 74 -/
def spec_l01Dec.l0:Nat→Int→Bool→ByteArray→Option (ByteArray)
 | 0,_,_,_=>none
 | k+1,x0,x3,x4=>if x0=0 then (if x3=true then (if 1+x4.size≤9223372036854775807 then (some ((⟨#[45]⟩:ByteArray) ++ x4)) else (none)) else (some x4)) else (if (Int.tmod x0 10)<0 then ((some (([(wrap64 (48+(wrap64 (-(Int.tmod x0 10))))) % 256]:List Int):List Int)).bind fun y102=>(if (strOfNums y102).size+x4.size≤9223372036854775807 then (spec_l01Dec.l0 k (wrap64 (Int.tdiv x0 10)) x3 ((strOfNums y102) ++ x4)) else (none))) else ((some (([(wrap64 (48+(Int.tmod x0 10))) % 256]:List Int):List Int)).bind fun y105=>(if (strOfNums y105).size+x4.size≤9223372036854775807 then (spec_l01Dec.l0 k (wrap64 (Int.tdiv x0 10)) x3 ((strOfNums y105) ++ x4)) else (none))))
def spec_l01Dec.f (k:Nat) (a0:Int):Option (ByteArray):=if a0=0 then (some (⟨#[48]⟩:ByteArray)) else (spec_l01Dec.l0 k a0 (decide (a0<0)) (⟨#[]⟩:ByteArray))
theorem spec_l01Dec.mono_l:∀ k,(∀ y0 y1 y2,LeO (spec_l01Dec.l0 k y0 y1 y2) (spec_l01Dec.l0 (k+1) y0 y1 y2))
 | 0=>fun _ _ _ r h=>by simp [spec_l01Dec.l0] at h
 | k+1=>by
  have ih0:=spec_l01Dec.mono_l k
  ·intro y0 y1 y2
   unfold spec_l01Dec.l0
   repeat' first
   | (with_reducible exact ih0 _ _ _)
   | (with_reducible exact LeO.refl _)
   | (with_reducible exact LeO.none _)
   | (with_reducible refine LeO.ite ?_ ?_)
   | (with_reducible refine LeO.bind ?_ (fun _=>?_))
   | exact ih0 _ _ _
   | exact LeO.none _
   | refine LeO.ite ?_ ?_
   | refine LeO.bind ?_ (fun _=>?_)
theorem spec_l01Dec.mono:∀ a0 k,LeO (spec_l01Dec.f k a0) (spec_l01Dec.f (k+1) a0):=by
 intro a0 k
 have ih0:=spec_l01Dec.mono_l k
 unfold spec_l01Dec.f
 repeat' first
   | (with_reducible exact ih0 _ _ _)
   | (with_reducible exact LeO.refl _)
   | (with_reducible exact LeO.none _)
   | (with_reducible refine LeO.ite ?_ ?_)
   | (with_reducible refine LeO.bind ?_ (fun _=>?_))
   | exact ih0 _ _ _
   | exact LeO.none _
   | refine LeO.ite ?_ ?_
   | refine LeO.bind ?_ (fun _=>?_)
set_option maxHeartbeats 8000000 in
set_option maxRecDepth 100000 in
theorem spec_l01Dec.calls (k:Nat) (a0:Int) (r:ByteArray) (w:World) (h:spec_l01Dec.f k a0=some r) :
  Calls Tryd.prog 74 #[.int .i64 a0] w fun e w'=>e = .returned (.string r)∧Below w.heap.size w w':=by
 have HB:=Aside0.mk (Below.refl w.heap.size w)
 have H:(if a0=0 then (some (⟨#[48]⟩:ByteArray)) else (spec_l01Dec.l0 k a0 (decide (a0<0)) (⟨#[]⟩:ByteArray)))=some r:=h
 clear h
 by_cases c2:a0=0
 ·rw [if_pos c2] at H
  have c2b0:(a0 == 0)=true:=beq_iff_eq.mpr c2
  have c2b1:(a0 != 0)=false:=bne_eq_false_iff_eq.mpr c2
  clear c2
  obtain rfl:=Option.some.inj H
  go_enter Tryd.func74,Tryd.ntmps74
  go_wp2
  go_ret
  exact ⟨z10_,z4_ HB.out⟩
 ·rw [if_neg c2] at H
  have c2b0:(a0 == 0)=false:=beq_eq_false_iff_ne.mpr c2
  have c2b1:(a0 != 0)=true:=bne_iff_ne.mpr c2
  have H':=Aside0.mk H
  clear H
  go_enter Tryd.func74,Tryd.ntmps74
  go_wp2
  go_loopg [0,4] k (fun kq v0 v4 w'=>∃ (x0_1:Int) (x4_1:ByteArray),v0 = .int .i64 x0_1∧v4 = .string x4_1∧Aside0 (spec_l01Dec.l0 kq x0_1 (decide (a0<0)) x4_1=some r)∧Aside0 (kq≤k)∧Aside0 (Below w.heap.size w w'))
  case atStart=>exact ⟨(a0),((⟨#[]⟩:ByteArray)),(z2_),(z2_),H',⟨Nat.le_refl _⟩,⟨z4_ HB.out⟩⟩
  case round =>
   clear H'
   try clear c2
   try clear c2b0
   try clear c2b1
   try clear p2
   obtain ⟨x0_1,x4_1,rfl,rfl,HA,HK1,HB⟩:=hrel
   cases gk with
   | zero=>exact absurd HA.out (by simp [spec_l01Dec.l0])
   | succ k1 =>
    have H:=HA.out
    clear HA
    simp only [spec_l01Dec.l0] at H
    by_cases c3:x0_1=0
    ·rw [if_pos c3] at H
     have c3b0:(x0_1 == 0)=true:=beq_iff_eq.mpr c3
     have c3b1:(x0_1 != 0)=false:=bne_eq_false_iff_eq.mpr c3
     clear c3
     by_cases c4:(decide (a0<0))=true
     ·rw [if_pos c4] at H
      have c4b0:(decide (a0<0))=true:=c4
      have c4q0:(a0<0):=of_decide_eq_true c4b0
      have c4q1:=eq_true c4q0
      clear c4
      by_cases c5:1+x4_1.size≤9223372036854775807
      ·rw [if_pos c5] at H
       have c5b0:=eq_true c5
       have c5b1:decide (1+x4_1.size≤9223372036854775807)=true:=decide_eq_true c5
       try have c5b2:(9223372036854775807<1+x4_1.size)=False:=eq_false (Nat.not_lt.2 c5)
       obtain rfl:=Option.some.inj H
       go_wp2
       go_ret
       exact ⟨z10_,z4_ HB.out⟩
      ·rw [if_neg c5] at H
       exact absurd H (by simp)
     ·rw [if_neg c4] at H
      have c4b0:(decide (a0<0))=false:=by simpa using c4
      have c4q0:¬ (a0<0):=of_decide_eq_false c4b0
      have c4q1:=eq_false c4q0
      clear c4
      obtain rfl:=Option.some.inj H
      go_wp2
      go_ret
      exact ⟨z10_,z4_ HB.out⟩
    ·rw [if_neg c3] at H
     have c3b0:(x0_1 == 0)=false:=beq_eq_false_iff_ne.mpr c3
     have c3b1:(x0_1 != 0)=true:=bne_iff_ne.mpr c3
     by_cases c6:(Int.tmod x0_1 10)<0
     ·rw [if_pos c6] at H
      have c6b0:decide ((Int.tmod x0_1 10)<0)=true:=decide_eq_true c6
      clear c6
      obtain ⟨y102,hy102⟩:∃ y_:List Int,y_=(([(wrap64 (48+(wrap64 (-(Int.tmod x0_1 10))))) % 256]:List Int)):=⟨_,rfl⟩
      replace H:(if (strOfNums y102).size+x4_1.size≤9223372036854775807 then (spec_l01Dec.l0 k1 (wrap64 (Int.tdiv x0_1 10)) (decide (a0<0)) ((strOfNums y102) ++ x4_1)) else (none))=some r:=by first | (rw [hy102];with_reducible exact H) | (have H2_:=(Option.bind_some _ _).symm.trans H;rw [hy102];with_reducible exact H2_) | (have H2_:=(Option.bind_some _ _).symm.trans H;with_reducible exact H2_) | with_reducible exact H | (rw [hy102];exact H) | exact H
      have Ny102:=Aside0.mk hy102
      clear hy102
      by_cases c7:(strOfNums y102).size+x4_1.size≤9223372036854775807
      ·rw [if_pos c7] at H
       have c7b0:=eq_true c7
       have c7b1:decide ((strOfNums y102).size+x4_1.size≤9223372036854775807)=true:=decide_eq_true c7
       try have c7b2:(9223372036854775807<(strOfNums y102).size+x4_1.size)=False:=eq_false (Nat.not_lt.2 c7)
       have H':=Aside0.mk H
       clear H
       go_wp2_with (first | ((with_reducible refine gd_ 21 ?_);refine Kd.R_lit (Kd.int .u8) _ 5 ?hg (N:=21) ?hd (xs:=([(wrap64 (48+(wrap64 (-(Int.tmod x0_1 10))))) % 256]:List Int)) (inner:=[.int .u8 ((wrap64 (48+(wrap64 (-(Int.tmod x0_1 10))))) % 256)]) (ok:=fun _=>True) (okp:=fun _=>True) ?hr ?hp (fun _ hk=>hk) trivial (Below.refl _ _) (Nat.le_refl _) (by simp) ?_;(case hd=>rfl);(case hg=>rfl);(case hr=>first | (go_simp;done) | (go_simp;rfl));(case hp=>exact (Reps.one (show Kd.M (Kd.int .u8) _ _ _ ((wrap64 (48+(wrap64 (-(Int.tmod x0_1 10))))) % 256) [.int .u8 ((wrap64 (48+(wrap64 (-(Int.tmod x0_1 10))))) % 256)] from rfl) (Reps.none _ _)));intro v103 w8 ho9 hb hg_ hnew_;clear hg_ hnew_;(first | rw [← Ny102.out] at ho9 | (simp only [Int.reduceToNat] at ho9;rw [← Ny102.out] at ho9));refine as2_ (Kd.R_lower ho9 (below_size (z4_ HB.out))) (below_step (z4_ HB.out) hb) ?_;clear HB;intro HO104 HB;clear hb ho9;have hcv10:=own_string (P:=Tryd.prog) Tryd.underlying31 Tryd.underlying5 Tryd.underlying9 (Kd.own_of_R HO104.out)))
       go_roundg k1
       case measure=>have:=HK1.out;omega
       case rel=>exact ⟨(wrap64 (Int.tdiv x0_1 10)),((strOfNums y102) ++ x4_1),(z2_),(z2_),H',⟨by have:=HK1.out;omega⟩,⟨z4_ HB.out⟩⟩
      ·rw [if_neg c7] at H
       exact absurd H (by simp)
     ·rw [if_neg c6] at H
      have c6b0:decide ((Int.tmod x0_1 10)<0)=false:=decide_eq_false c6
      clear c6
      obtain ⟨y105,hy105⟩:∃ y_:List Int,y_=(([(wrap64 (48+(Int.tmod x0_1 10))) % 256]:List Int)):=⟨_,rfl⟩
      replace H:(if (strOfNums y105).size+x4_1.size≤9223372036854775807 then (spec_l01Dec.l0 k1 (wrap64 (Int.tdiv x0_1 10)) (decide (a0<0)) ((strOfNums y105) ++ x4_1)) else (none))=some r:=by first | (rw [hy105];with_reducible exact H) | (have H2_:=(Option.bind_some _ _).symm.trans H;rw [hy105];with_reducible exact H2_) | (have H2_:=(Option.bind_some _ _).symm.trans H;with_reducible exact H2_) | with_reducible exact H | (rw [hy105];exact H) | exact H
      have Ny105:=Aside0.mk hy105
      clear hy105
      by_cases c11:(strOfNums y105).size+x4_1.size≤9223372036854775807
      ·rw [if_pos c11] at H
       have c11b0:=eq_true c11
       have c11b1:decide ((strOfNums y105).size+x4_1.size≤9223372036854775807)=true:=decide_eq_true c11
       try have c11b2:(9223372036854775807<(strOfNums y105).size+x4_1.size)=False:=eq_false (Nat.not_lt.2 c11)
       have H':=Aside0.mk H
       clear H
       go_wp2_with (first | ((with_reducible refine gd_ 21 ?_);refine Kd.R_lit (Kd.int .u8) _ 5 ?hg (N:=21) ?hd (xs:=([(wrap64 (48+(Int.tmod x0_1 10))) % 256]:List Int)) (inner:=[.int .u8 ((wrap64 (48+(Int.tmod x0_1 10))) % 256)]) (ok:=fun _=>True) (okp:=fun _=>True) ?hr ?hp (fun _ hk=>hk) trivial (Below.refl _ _) (Nat.le_refl _) (by simp) ?_;(case hd=>rfl);(case hg=>rfl);(case hr=>first | (go_simp;done) | (go_simp;rfl));(case hp=>exact (Reps.one (show Kd.M (Kd.int .u8) _ _ _ ((wrap64 (48+(Int.tmod x0_1 10))) % 256) [.int .u8 ((wrap64 (48+(Int.tmod x0_1 10))) % 256)] from rfl) (Reps.none _ _)));intro v106 w12 ho13 hb hg_ hnew_;clear hg_ hnew_;(first | rw [← Ny105.out] at ho13 | (simp only [Int.reduceToNat] at ho13;rw [← Ny105.out] at ho13));refine as2_ (Kd.R_lower ho13 (below_size (z4_ HB.out))) (below_step (z4_ HB.out) hb) ?_;clear HB;intro HO107 HB;clear hb ho13;have hcv14:=own_string (P:=Tryd.prog) Tryd.underlying31 Tryd.underlying5 Tryd.underlying9 (Kd.own_of_R HO107.out)))
       go_roundg k1
       case measure=>have:=HK1.out;omega
       case rel=>exact ⟨(wrap64 (Int.tdiv x0_1 10)),((strOfNums y105) ++ x4_1),(z2_),(z2_),H',⟨by have:=HK1.out;omega⟩,⟨z4_ HB.out⟩⟩
      ·rw [if_neg c11] at H
       exact absurd H (by simp)

end Go.Proofs.YtelecnmflodkkaaDoor.P
