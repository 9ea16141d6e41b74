/- For all sets, marks, nodes, data and flags the program's SetPut and the reference's return the same, of its own memory, and leave what they are given. No condition. (Part 4 of 4: written by programs of this workplace and by hand, merged.) -/
import Derived.Test.YtphbgcfpcadabaaMFnExactSetPuta
import Derived.Test.YtphbgcfpcadabaaMFnExactSetPutb
import Derived.Test.YtphbgcfpcadabaaMFnExactSetPutc
import Derived.Test.YtphbgcfpcadabaaMFnExactSetPutWWords
import Derived.Test.YtphbgcfpcadabaaMFnExactSetPutWMore
import Derived.Laws.BitsLemmas
import Derived.Test.YtphbgcfpcadabaaRows
import Derived.WalkKit
import Derived.ProofKit
import Derived.OpenShut
import Derived.ShutString
import Derived.ChangeOld
import Derived.Below
import Derived.SizedLaws
set_option linter.unusedVariables false
set_option linter.unusedSimpArgs false

namespace Go.Proofs.Ytphbgcfpcadabaa.P
open Go.RowKit Go.Proofs.YtphbgcfpcadabaaW.PrintWords Go.Proofs.YtphbgcfpcadabaaW.PrintLast Go.Proofs.YtphbgcfpcadabaaW.PrintMore
attribute [local go_sem] max2_int min2_int max_two min_two max_three min_three max_four min_four   -- for this text's walks alone
set_option linter.unusedVariables false
set_option linter.unusedSimpArgs false

/-! ### impl_SetPut: function 32 -/
def impl_SetPut.j0:Nat→List (S56)→Int→ByteArray→Bool→Bool→List (S56)→List (S91)→Option ((List (S56)) × (List (S91)) × Int × Int × Int)
 | 0,_,_,_,_,_,_,_=>none
 | k+1,x1,x2,x3,x4,x17,x860000,x860001=>if x17=true then (some (([]:List (S56)),([]:List (S91)),0,0,2)) else ((impl_setPut.f k x860000 x860001 x1 x2 x3 x4).bind fun bt866=>(some (bt866.1,bt866.2.1,bt866.2.2.1,bt866.2.2.2.1,bt866.2.2.2.2)))
def impl_SetPut.f (k:Nat) (l0_0:List (S56)) (l0_1:List (S91)) (l1:List (S56)) (a2:Int) (a3:ByteArray) (a4:Bool):Option ((List (S56)) × (List (S91)) × Int × Int × Int):=(impl_isMany_impl_Mark.f l1).bind fun t861=>(if t861=true then (impl_SetPut.j0 k l1 a2 a3 a4 true l0_0 l0_1) else ((impl_isLong.f k (([a3]:List ByteArray))).bind fun t865=>(impl_SetPut.j0 k l1 a2 a3 a4 t865 l0_0 l0_1)))
theorem impl_SetPut.mono_l:∀ k,(∀ y0 y1 y2 y3 y4 y5 y6,LeO (impl_SetPut.j0 k y0 y1 y2 y3 y4 y5 y6) (impl_SetPut.j0 (k+1) y0 y1 y2 y3 y4 y5 y6))
 | 0=>fun _ _ _ _ _ _ _ r h=>by simp [impl_SetPut.j0] at h
 | k+1=>by
  have ih0:=impl_SetPut.mono_l k
  ·intro y0 y1 y2 y3 y4 y5 y6
   unfold impl_SetPut.j0
   repeat' first
   | (with_reducible exact ih0 _ _ _ _ _ _ _)
   | (with_reducible exact impl_isLong.mono _ _)
   | (with_reducible exact impl_setPut.mono _ _ _ _ _ _ _)
   | (with_reducible exact LeO.refl _)
   | (with_reducible exact LeO.none _)
   | (with_reducible refine LeO.ite ?_ ?_)
   | (with_reducible refine LeO.bind ?_ (fun _=>?_))
   | exact ih0 _ _ _ _ _ _ _
   | exact impl_isLong.mono _ _
   | exact impl_setPut.mono _ _ _ _ _ _ _
   | exact LeO.none _
   | refine LeO.ite ?_ ?_
   | refine LeO.bind ?_ (fun _=>?_)
theorem impl_SetPut.mono:∀ a0 a1 a2 a3 a4 a5 k,LeO (impl_SetPut.f k a0 a1 a2 a3 a4 a5) (impl_SetPut.f (k+1) a0 a1 a2 a3 a4 a5):=by
 intro a0 a1 a2 a3 a4 a5 k
 have ih0:=impl_SetPut.mono_l k
 unfold impl_SetPut.f
 repeat' first
   | (with_reducible exact ih0 _ _ _ _ _ _ _)
   | (with_reducible exact impl_isLong.mono _ _)
   | (with_reducible exact impl_setPut.mono _ _ _ _ _ _ _)
   | (with_reducible exact LeO.refl _)
   | (with_reducible exact LeO.none _)
   | (with_reducible refine LeO.ite ?_ ?_)
   | (with_reducible refine LeO.bind ?_ (fun _=>?_))
   | exact ih0 _ _ _ _ _ _ _
   | exact impl_isLong.mono _ _
   | exact impl_setPut.mono _ _ _ _ _ _ _
   | exact LeO.none _
   | refine LeO.ite ?_ ?_
   | refine LeO.bind ?_ (fun _=>?_)
set_option maxHeartbeats 8000000 in
set_option maxRecDepth 100000 in
theorem impl_SetPut.calls (k:Nat) (A0_0:Option Addr) (c0_0:Nat) (l0_0:List (S56)) (A0_1:Option Addr) (c0_1:Nat) (l0_1:List (S91)) (A1:Option Addr) (c1:Nat) (l1:List (S56)) (a2:Int) (a3:ByteArray) (a4:Bool) (r1:List (S56)) (r2:List (S91)) (r3:Int) (r4:Int) (r5:Int) (w:World) (hr0_0:Kd.C k56 w A0_0 l0_0.length l0_0) (hc0_0:l0_0.length≤c0_0) (hr0_1:Kd.C k91 w A0_1 l0_1.length l0_1) (hc0_1:l0_1.length≤c0_1) (hr1:Kd.C k56 w A1 l1.length l1) (hc1:l1.length≤c1) (h:impl_SetPut.f k l0_0 l0_1 l1 a2 a3 a4=some (r1,r2,r3,r4,r5)) :
  Calls Try.prog 32 #[.agg #[.slice A0_0 l0_0.length c0_0,.slice A0_1 l0_1.length c0_1],.slice A1 l1.length c1,.int .i64 a2,.string a3,.bool a4] w fun e w'=>∃ v0_ v1_:Value,e = .returned (.agg #[v0_,v1_,.int .i64 r3,.int .i64 r4,.int .i64 r5])∧Kd.R k56 56 w' w.heap.size (fun _=>True) v0_ r1∧Kd.R k91 91 w' w.heap.size (fun _=>True) v1_ r2∧Below w.heap.size w w':=by
 have hu40:=Try.underlying40
 have hu58:=Try.underlying58
 have HR0_0:=Aside0.mk hr0_0
 have HC0_0:=Aside0.mk hc0_0
 clear hr0_0 hc0_0
 have HR0_1:=Aside0.mk hr0_1
 have HC0_1:=Aside0.mk hc0_1
 clear hr0_1 hc0_1
 have HR1:=Aside0.mk hr1
 have HC1:=Aside0.mk hc1
 clear hr1 hc1
 have HB:=Aside0.mk (Below.refl w.heap.size w)
 have H:((impl_isMany_impl_Mark.f l1).bind fun t861=>(if t861=true then (impl_SetPut.j0 k l1 a2 a3 a4 true l0_0 l0_1) else ((impl_isLong.f k (([a3]:List ByteArray))).bind fun t865=>(impl_SetPut.j0 k l1 a2 a3 a4 t865 l0_0 l0_1))))=some (r1,r2,r3,r4,r5):=h
 clear h
 have HC6:=Aside0.mk H
 clear H
 go_enter Try.func32,Try.ntmps32
 go_upto_region 1 with (first | ((with_reducible refine gd_ 5 ?_);(try (refine gate_guard (by rfl) ?_;dsimp only));refine be_ 5 #[.slice A0_0 l0_0.length c0_0,.slice A0_1 l0_1.length c0_1] 40 ?_;intro gb859 hg w7 hbox hb;refine as4_ (below_step (z3_ HB.out) hb) (hbox) ((z7_ HB.out:w.heap.size≤gb859)) ((z7_ HB.out:w.heap.size≤gb859)) ?_;clear HB;intro HB BK859 GW859 GE859;clear hb hbox hg) | ((with_reducible refine gd_ 10 ?_);(try (refine gate_guard (by rfl) ?_;dsimp only));refine be_ 10 #[.slice none 0 0,.slice none 0 0,.int .i64 0,.int .i64 0,.int .i64 0] 58 ?_;intro gb860 hg w8 hbox hb;refine as7_ (blkB_ BK859.out hb) (below_step (z6_ HB.out GE859.out) hb) (hbox) ((z9_ HB.out GE859.out:w.heap.size≤gb860)) ((z9_ HB.out GE859.out:w.heap.size≤gb860)) (neL_ BK859.out hg) (neG_ BK859.out hg) ?_;clear BK859 HB;intro BK859 HB BK860 GW860 GE860 NB859_860 NB860_859;clear hb hbox hg))
 (try simp only [Act.put,sa_,s0_,ss_])
 go_cut [17] (fun v17 wc=>∃ (kq:Nat) (x17_5:Bool),v17 = .bool x17_5∧Aside0 (impl_SetPut.j0 kq l1 a2 a3 a4 x17_5 l0_0 l0_1=some (r1,r2,r3,r4,r5))∧Aside0 (kq≤k)∧Aside0 (wc.heap[gb859]? = some (.cells #[(.slice A0_0 l0_0.length c0_0),(.slice A0_1 l0_1.length c0_1)] 40 (0,0)))∧Aside0 (wc.heap[gb860]? = some (.cells #[(.slice none 0 0),(.slice none 0 0),.int .i64 0,.int .i64 0,.int .i64 0] 58 (0,0)))∧Aside0 (Below w.heap.size w wc))
 case first =>
  have H:=HC6.out
  clear HC6
  replace H:=Option.bind_eq_some_iff.mp H
  obtain ⟨t861,A90,H⟩:=H
  replace H:(if t861=true then (impl_SetPut.j0 k l1 a2 a3 a4 true l0_0 l0_1) else ((impl_isLong.f k (([a3]:List ByteArray))).bind fun t865=>(impl_SetPut.j0 k l1 a2 a3 a4 t865 l0_0 l0_1)))=some (r1,r2,r3,r4,r5):=H
  have A9:=Aside0.mk A90
  clear A90
  by_cases c10:t861=true
  ·subst c10
   have H1:(impl_SetPut.j0 k l1 a2 a3 a4 true l0_0 l0_1)=some (r1,r2,r3,r4,r5):=by rw [if_pos rfl] at H;exact H
   clear H
   have H:=H1
   clear H1
   have H':=Aside0.mk H
   clear H
   go_wp2_with (first | ((with_reducible refine gc_ 75 ?_);refine gl_ (some 12) Try.func75 #[.slice A1 l1.length c1] ?_;(with_reducible refine (impl_isMany_impl_Mark.calls _ _ l1 true _ ?s1 ?s2 A9.out).mono ?_);(case s1=>repeat (first | exact (Kd.C_below HR1.out HB.out) | (with_reducible refine Kd.C_alloc ?_ _) | (with_reducible refine Kd.C_drewN ?_ _) | (with_reducible refine Kd.C_drew ?_)));(case s2=>exact HC1.out);rintro e w' ⟨rfl,⟨nd,rfl⟩⟩;refine ⟨_,rfl,?_⟩))
   go_meet
   case rel=>exact ⟨_,(true),(z2_),H',⟨by first | omega | exact Nat.le_refl _⟩,⟨z5_ BK859.out⟩,⟨z5_ BK860.out⟩,⟨z4_ HB.out GE859.out GE860.out⟩⟩
  ·replace c10:=Bool.eq_false_iff.mpr c10
   subst c10
   have H1:((impl_isLong.f k (([a3]:List ByteArray))).bind fun t865=>(impl_SetPut.j0 k l1 a2 a3 a4 t865 l0_0 l0_1))=some (r1,r2,r3,r4,r5):=by rw [if_neg (show ¬ (false=true) by decide)] at H;exact H
   clear H
   have H:=H1
   clear H1
   obtain ⟨y862,hy862⟩:∃ y_:List ByteArray,y_=(([a3]:List ByteArray)):=⟨_,rfl⟩
   replace H:((impl_isLong.f k y862).bind fun t865=>(impl_SetPut.j0 k l1 a2 a3 a4 t865 l0_0 l0_1))=some (r1,r2,r3,r4,r5):=by first | (rw [hy862];with_reducible exact H) | (have H2_:=(Option.bind_some _ _).symm.trans H;rw [hy862];with_reducible exact H2_) | (have H2_:=(Option.bind_some _ _).symm.trans H;with_reducible exact H2_) | with_reducible exact H | (rw [hy862];exact H) | exact H
   have Ny862:=Aside0.mk hy862
   clear hy862
   replace H:=Option.bind_eq_some_iff.mp H
   obtain ⟨t865,A110,H⟩:=H
   replace H:(impl_SetPut.j0 k l1 a2 a3 a4 t865 l0_0 l0_1)=some (r1,r2,r3,r4,r5):=H
   have A11:=Aside0.mk A110
   clear A110
   have H':=Aside0.mk H
   clear H
   go_wp2_with (first | ((with_reducible refine gc_ 75 ?_);refine gl_ (some 12) Try.func75 #[.slice A1 l1.length c1] ?_;(with_reducible refine (impl_isMany_impl_Mark.calls _ _ l1 false _ ?s1 ?s2 A9.out).mono ?_);(case s1=>repeat (first | exact (Kd.C_below HR1.out HB.out) | (with_reducible refine Kd.C_alloc ?_ _) | (with_reducible refine Kd.C_drewN ?_ _) | (with_reducible refine Kd.C_drew ?_)));(case s2=>exact HC1.out);rintro e w' ⟨rfl,⟨nd,rfl⟩⟩;refine ⟨_,rfl,?_⟩) | ((with_reducible refine gd_ 15 ?_);(try (refine gate_guard (by rfl) ?_;dsimp only));refine Kd.R_lit Kd.string _ 9 ?hg (N:=15) ?hd (xs:=([a3]:List ByteArray)) (inner:=[.string a3]) (ok:=fun _=>True) (okp:=fun _=>True) ?hr ?hp (fun _ hk=>hk) trivial (Below.refl _ _) (Nat.le_refl _) (by simp) ?_;(case hd=>rfl);(case hg=>rfl);(case hr=>first | (go_simp;done) | (go_simp;rfl));(case hp=>exact (Reps.one (show Kd.M Kd.string _ _ _ a3 [.string a3] from rfl) (Reps.none _ _)));intro v863 w12 ho13 hb hg_ hnew_;clear hg_ hnew_;(first | rw [← Ny862.out] at ho13 | (simp only [Int.reduceToNat] at ho13;rw [← Ny862.out] at ho13));refine as4_ (Kd.R_lower ho13 (below_size (z4_ HB.out GE859.out GE860.out))) (blkB_ BK859.out hb) (blkB_ BK860.out hb) (below_step (z4_ HB.out GE859.out GE860.out) hb) ?_;clear BK859 BK860 HB;intro HO864 BK859 BK860 HB;clear hb ho13;obtain ⟨Ao14,co14,eo14⟩:=Kd.R_slice HO864.out;subst eo14) | (go_at_call 76;(with_reducible refine (impl_isLong.calls k _ _ y862 t865 _ ?s1 ?s2 A11.out).mono ?_);(case s1=>repeat (first | exact (Kd.R_reads' HO864.out).2.2 | (with_reducible refine Kd.C_alloc ?_ _) | (with_reducible refine Kd.C_drewN ?_ _) | (with_reducible refine Kd.C_drew ?_)));(case s2=>exact (Kd.R_reads' HO864.out).2.1);rintro e w' ⟨rfl,⟨nd,rfl⟩⟩))
   go_meet
   case rel=>exact ⟨_,(t865),(z2_),H',⟨by first | omega | exact Nat.le_refl _⟩,⟨z5_ BK859.out⟩,⟨z5_ BK860.out⟩,⟨z4_ HB.out GE859.out GE860.out⟩⟩
 case rest =>
  clear HC6
  try clear c1
  try clear p2
  try clear c3
  try clear c7
  try clear c10
  obtain ⟨kq,x17_5,rfl,HA,HJ5,BK859,BK860,HB⟩:=hcut
  cases kq with
  | zero=>exact absurd HA.out (by simp [impl_SetPut.j0])
  | succ kj5 =>
   have H:=HA.out
   clear HA
   simp only [impl_SetPut.j0] at H
   by_cases c15:x17_5=true
   ·subst c15
    have H1:(some (([]:List (S56)),([]:List (S91)),0,0,2))=some (r1,r2,r3,r4,r5):=by rw [if_pos rfl] at H;exact H
    clear H
    have H:=H1
    clear H1
    simp only [Option.some.injEq,Prod.mk.injEq] at H
    obtain ⟨rfl,rfl,rfl,rfl,rfl⟩:=H
    have hnb16:=NB860_859.out
    have hnc16:=NB859_860.out
    have ⟨hcz17_0,hcz17_1,hcz17_2,hcz17_3,hcz17_4,hfz17_0,hfz17_1,hfz17_2,hfz17_3,hfz17_4⟩:=cz5_ BK860.out
    go_wp2
    refine bodyPost_ret (results_cell_row rfl _ _ gb860 58 #[.slice none 0 0,.slice none 0 0,.int .i64 0,.int .i64 0,.int .i64 2] (0,0) _ rfl (z24_ BK860.out) Try.underlying58 rfl (by kernel_rfl)) rfl ?_
    exact ⟨_,_,z8_,z26_,z26_,z4_ HB.out GE859.out GE860.out⟩
   ·replace c15:=Bool.eq_false_iff.mpr c15
    subst c15
    have H1:((impl_setPut.f kj5 l0_0 l0_1 l1 a2 a3 a4).bind fun bt866=>(some (bt866.1,bt866.2.1,bt866.2.2.1,bt866.2.2.2.1,bt866.2.2.2.2)))=some (r1,r2,r3,r4,r5):=by rw [if_neg (show ¬ (false=true) by decide)] at H;exact H
    clear H
    have H:=H1
    clear H1
    replace H:=Option.bind_eq_some_iff.mp H
    obtain ⟨⟨t866,t869,t872,t873,t874⟩,A180,H⟩:=H
    replace H:(some (t866,t869,t872,t873,t874))=some (r1,r2,r3,r4,r5):=H
    have A18:=Aside0.mk A180
    clear A180
    simp only [Option.some.injEq,Prod.mk.injEq] at H
    obtain ⟨rfl,rfl,rfl,rfl,rfl⟩:=H
    have hnb19:=NB859_860.out
    have hnc19:=NB860_859.out
    have ⟨hcz20_0,hcz20_1,hfz20_0,hfz20_1⟩:=cz2_ BK859.out
    go_wp2_with (first | ((with_reducible refine gc_ 77 ?_);refine gl_ (some 24) Try.func77 #[.agg #[.slice A0_0 l0_0.length c0_0,.slice A0_1 l0_1.length c0_1],.slice A1 l1.length c1,.int .i64 a2,.string a3,.bool a4] ?_;(with_reducible refine (impl_setPut.calls kj5 _ _ l0_0 _ _ l0_1 _ _ l1 a2 a3 a4 t866 t869 t872 t873 t874 _ ?s1 ?s2 ?s3 ?s4 ?s5 ?s6 A18.out).mono ?_);(case s1=>repeat (first | exact (Kd.C_below HR0_0.out HB.out) | (with_reducible refine Kd.C_alloc ?_ _) | (with_reducible refine Kd.C_drewN ?_ _) | (with_reducible refine Kd.C_drew ?_)));(case s2=>exact HC0_0.out);(case s3=>repeat (first | exact (Kd.C_below HR0_1.out HB.out) | (with_reducible refine Kd.C_alloc ?_ _) | (with_reducible refine Kd.C_drewN ?_ _) | (with_reducible refine Kd.C_drew ?_)));(case s4=>exact HC0_1.out);(case s5=>repeat (first | exact (Kd.C_below HR1.out HB.out) | (with_reducible refine Kd.C_alloc ?_ _) | (with_reducible refine Kd.C_drewN ?_ _) | (with_reducible refine Kd.C_drew ?_)));(case s6=>exact HC1.out);rintro e w21 ⟨v867,v870,rfl,ho0,ho1,hb⟩;refine ⟨_,rfl,?_⟩;refine as5_ (Kd.R_lower ho0 (below_size (z4_ HB.out GE859.out GE860.out))) (Kd.R_lower ho1 (below_size (z4_ HB.out GE859.out GE860.out))) (blkB_ BK859.out hb) (blkB_ BK860.out hb) (below_step (z4_ HB.out GE859.out GE860.out) hb) ?_;clear BK859 BK860 HB;intro HO868 HO871 BK859 BK860 HB;(try clear hb);(try clear ho0);(try clear ho1);obtain ⟨Ao22,co22,eo22⟩:=Kd.R_slice HO868.out;subst eo22;have ⟨hcz23_0,hcz23_1,hcz23_2,hcz23_3,hcz23_4,hfz23_0,hfz23_1,hfz23_2,hfz23_3,hfz23_4⟩:=cz5_ BK860.out;obtain ⟨Ao24,co24,eo24⟩:=Kd.R_slice HO871.out;subst eo24))
    refine bodyPost_ret (results_cell_row rfl _ _ gb860 58 #[.slice Ao22 t866.length co22,.slice Ao24 t869.length co24,.int .i64 t872,.int .i64 t873,.int .i64 t874] (0,0) _ rfl (z24_ BK860.out) Try.underlying58 rfl (by kernel_rfl)) rfl ?_
    exact ⟨_,_,z8_,z27_ HO868.out BK860.out,z27_ HO871.out BK860.out,z4_ HB.out GE859.out GE860.out⟩


/-! ### laws_FnExactSetPut: function 6 -/
def laws_FnExactSetPut.j0:Nat→List (S100)→Int→ByteArray→Bool→Bool→List (S100)→List (S107)→List (S56)→List (S91)→Int→Int→Int→List (S56)→List (S91)→Int→Int→Int→Option (Bool)
 | 0,_,_,_,_,_,_,_,_,_,_,_,_,_,_,_,_,_=>none
 | k+1,x1,x2,x3,x4,x78,x876000,x876001,x897000,x897001,x897002,x897003,x897004,x917000,x917001,x917002,x917003,x917004=>if x78=true then (none) else ((laws_markSetOut.f k x917000 x917001 x917002 x917003 x917004 1).bind fun bt935=>((laws_heldSetOut.f k bt935.2.1 bt935.2.2 x917002 x917003 x917004 1).bind fun t938=>(if t938<0 then (none) else (if t938=bt935.1 then ((laws_toSet.f k x876000 x876001).bind fun bt939=>((laws_toMarkS.f k x1).bind fun t945=>((impl_SetPut.f k bt939.1 bt939.2 t945 x2 x3 x4).bind fun bt948=>((laws_eqSetOut.f k bt948.1 bt948.2.1 bt948.2.2.1 bt948.2.2.2.1 bt948.2.2.2.2 x897000 x897001 x897002 x897003 x897004).bind fun t958=>(if t958=true then ((laws_heldSetOut.f k bt935.2.1 bt935.2.2 x917002 x917003 x917004 1).bind fun t959=>(if t959<0 then (none) else (if t959=bt935.1 then (some true) else (none)))) else (none)))))) else (none)))))
def laws_FnExactSetPut.f (k:Nat) (l0_0:List (S100)) (l0_1:List (S107)) (l1:List (S100)) (a2:Int) (a3:ByteArray) (a4:Bool):Option (Bool):=if (a3.size:Int)>1048576 then (some true) else ((laws_szSet.f k l0_0 l0_1 1048576).bind fun t876=>(if t876<0 then (some true) else ((laws_szMarkS.f l1 t876).bind fun t877=>(if t877<0 then (some true) else ((laws_toSet.f k l0_0 l0_1).bind fun bt878=>((laws_toMarkS.f k l1).bind fun t884=>((spec_SetPut.f k bt878.1 bt878.2 t884 a2 a3 a4).bind fun bt887=>((laws_toSet.f k l0_0 l0_1).bind fun bt897=>((laws_toMarkS.f k l1).bind fun t904=>((impl_SetPut.f k bt897.1 bt897.2 t904 a2 a3 a4).bind fun bt907=>((laws_eqSetOut.f k bt907.1 bt907.2.1 bt907.2.2.1 bt907.2.2.2.1 bt907.2.2.2.2 bt887.1 bt887.2.1 bt887.2.2.1 bt887.2.2.2.1 bt887.2.2.2.2).bind fun t917=>(if t917=true then ((laws_toSet.f k l0_0 l0_1).bind fun bt918=>((laws_eqSet.f k bt897.1 bt897.2 bt918.1 bt918.2).bind fun t924=>(if t924=true then ((laws_toMarkS.f k l1).bind fun t925=>((laws_eqMarkS.f k t904 t925).bind fun t928=>(if t928=true then ((laws_markSet.f k bt897.1 bt897.2 1).bind fun bt929=>((laws_markMarkS.f k t904 bt929.1).bind fun bt932=>(if bt932.1<0 then (laws_FnExactSetPut.j0 k l1 a2 a3 a4 true l0_0 l0_1 bt887.1 bt887.2.1 bt887.2.2.1 bt887.2.2.2.1 bt887.2.2.2.2 bt907.1 bt907.2.1 bt907.2.2.1 bt907.2.2.2.1 bt907.2.2.2.2) else ((laws_eqSetOut.f k bt907.1 bt907.2.1 bt907.2.2.1 bt907.2.2.2.1 bt907.2.2.2.2 bt887.1 bt887.2.1 bt887.2.2.1 bt887.2.2.2.1 bt887.2.2.2.2).bind fun t934=>(laws_FnExactSetPut.j0 k l1 a2 a3 a4 (!t934) l0_0 l0_1 bt887.1 bt887.2.1 bt887.2.2.1 bt887.2.2.2.1 bt887.2.2.2.2 bt907.1 bt907.2.1 bt907.2.2.1 bt907.2.2.2.1 bt907.2.2.2.2))))) else (none)))) else (none)))) else (none)))))))))))))
theorem laws_FnExactSetPut.mono_l:∀ k,(∀ y0 y1 y2 y3 y4 y5 y6 y7 y8 y9 y10 y11 y12 y13 y14 y15 y16,LeO (laws_FnExactSetPut.j0 k y0 y1 y2 y3 y4 y5 y6 y7 y8 y9 y10 y11 y12 y13 y14 y15 y16) (laws_FnExactSetPut.j0 (k+1) y0 y1 y2 y3 y4 y5 y6 y7 y8 y9 y10 y11 y12 y13 y14 y15 y16))
 | 0=>fun _ _ _ _ _ _ _ _ _ _ _ _ _ _ _ _ _ r h=>by simp [laws_FnExactSetPut.j0] at h
 | k+1=>by
  have ih0:=laws_FnExactSetPut.mono_l k
  ·intro y0 y1 y2 y3 y4 y5 y6 y7 y8 y9 y10 y11 y12 y13 y14 y15 y16
   unfold laws_FnExactSetPut.j0
   repeat' first
   | (with_reducible exact ih0 _ _ _ _ _ _ _ _ _ _ _ _ _ _ _ _ _)
   | (with_reducible exact impl_SetPut.mono _ _ _ _ _ _ _)
   | (with_reducible exact laws_eqMarkS.mono _ _ _)
   | (with_reducible exact laws_eqSet.mono _ _ _ _ _)
   | (with_reducible exact laws_eqSetOut.mono _ _ _ _ _ _ _ _ _ _ _)
   | (with_reducible exact laws_heldSetOut.mono _ _ _ _ _ _ _)
   | (with_reducible exact laws_markMarkS.mono _ _ _)
   | (with_reducible exact laws_markSet.mono _ _ _ _)
   | (with_reducible exact laws_markSetOut.mono _ _ _ _ _ _ _)
   | (with_reducible exact laws_szSet.mono _ _ _ _)
   | (with_reducible exact laws_toMarkS.mono _ _)
   | (with_reducible exact laws_toSet.mono _ _ _)
   | (with_reducible exact spec_SetPut.mono _ _ _ _ _ _ _)
   | (with_reducible exact LeO.refl _)
   | (with_reducible exact LeO.none _)
   | (with_reducible refine LeO.ite ?_ ?_)
   | (with_reducible refine LeO.bind ?_ (fun _=>?_))
   | exact ih0 _ _ _ _ _ _ _ _ _ _ _ _ _ _ _ _ _
   | exact impl_SetPut.mono _ _ _ _ _ _ _
   | exact laws_eqMarkS.mono _ _ _
   | exact laws_eqSet.mono _ _ _ _ _
   | exact laws_eqSetOut.mono _ _ _ _ _ _ _ _ _ _ _
   | exact laws_heldSetOut.mono _ _ _ _ _ _ _
   | exact laws_markMarkS.mono _ _ _
   | exact laws_markSet.mono _ _ _ _
   | exact laws_markSetOut.mono _ _ _ _ _ _ _
   | exact laws_szSet.mono _ _ _ _
   | exact laws_toMarkS.mono _ _
   | exact laws_toSet.mono _ _ _
   | exact spec_SetPut.mono _ _ _ _ _ _ _
   | exact LeO.none _
   | refine LeO.ite ?_ ?_
   | refine LeO.bind ?_ (fun _=>?_)
theorem laws_FnExactSetPut.mono:∀ a0 a1 a2 a3 a4 a5 k,LeO (laws_FnExactSetPut.f k a0 a1 a2 a3 a4 a5) (laws_FnExactSetPut.f (k+1) a0 a1 a2 a3 a4 a5):=by
 intro a0 a1 a2 a3 a4 a5 k
 have ih0:=laws_FnExactSetPut.mono_l k
 unfold laws_FnExactSetPut.f
 repeat' first
   | (with_reducible exact ih0 _ _ _ _ _ _ _ _ _ _ _ _ _ _ _ _ _)
   | (with_reducible exact impl_SetPut.mono _ _ _ _ _ _ _)
   | (with_reducible exact laws_eqMarkS.mono _ _ _)
   | (with_reducible exact laws_eqSet.mono _ _ _ _ _)
   | (with_reducible exact laws_eqSetOut.mono _ _ _ _ _ _ _ _ _ _ _)
   | (with_reducible exact laws_heldSetOut.mono _ _ _ _ _ _ _)
   | (with_reducible exact laws_markMarkS.mono _ _ _)
   | (with_reducible exact laws_markSet.mono _ _ _ _)
   | (with_reducible exact laws_markSetOut.mono _ _ _ _ _ _ _)
   | (with_reducible exact laws_szSet.mono _ _ _ _)
   | (with_reducible exact laws_toMarkS.mono _ _)
   | (with_reducible exact laws_toSet.mono _ _ _)
   | (with_reducible exact spec_SetPut.mono _ _ _ _ _ _ _)
   | (with_reducible exact LeO.refl _)
   | (with_reducible exact LeO.none _)
   | (with_reducible refine LeO.ite ?_ ?_)
   | (with_reducible refine LeO.bind ?_ (fun _=>?_))
   | exact ih0 _ _ _ _ _ _ _ _ _ _ _ _ _ _ _ _ _
   | exact impl_SetPut.mono _ _ _ _ _ _ _
   | exact laws_eqMarkS.mono _ _ _
   | exact laws_eqSet.mono _ _ _ _ _
   | exact laws_eqSetOut.mono _ _ _ _ _ _ _ _ _ _ _
   | exact laws_heldSetOut.mono _ _ _ _ _ _ _
   | exact laws_markMarkS.mono _ _ _
   | exact laws_markSet.mono _ _ _ _
   | exact laws_markSetOut.mono _ _ _ _ _ _ _
   | exact laws_szSet.mono _ _ _ _
   | exact laws_toMarkS.mono _ _
   | exact laws_toSet.mono _ _ _
   | exact spec_SetPut.mono _ _ _ _ _ _ _
   | exact LeO.none _
   | refine LeO.ite ?_ ?_
   | refine LeO.bind ?_ (fun _=>?_)
set_option maxHeartbeats 8000000 in
set_option maxRecDepth 100000 in
theorem laws_FnExactSetPut.calls (k:Nat) (A0_0:Option Addr) (c0_0:Nat) (l0_0:List (S100)) (A0_1:Option Addr) (c0_1:Nat) (l0_1:List (S107)) (A1:Option Addr) (c1:Nat) (l1:List (S100)) (a2:Int) (a3:ByteArray) (a4:Bool) (r:Bool) (w:World) (hr0_0:Kd.C k100 w A0_0 l0_0.length l0_0) (hc0_0:l0_0.length≤c0_0) (hr0_1:Kd.C k107 w A0_1 l0_1.length l0_1) (hc0_1:l0_1.length≤c0_1) (hr1:Kd.C k100 w A1 l1.length l1) (hc1:l1.length≤c1) (h:laws_FnExactSetPut.f k l0_0 l0_1 l1 a2 a3 a4=some r) :
  Calls Try.prog 6 #[.agg #[.slice A0_0 l0_0.length c0_0,.slice A0_1 l0_1.length c0_1],.slice A1 l1.length c1,.int .i64 a2,.string a3,.bool a4] w fun e w'=>e = .returned (.bool r)∧Below w.heap.size w w':=by
 have hu32:=Try.underlying32
 have hu58:=Try.underlying58
 have hu40:=Try.underlying40
 have HR0_0:=Aside0.mk hr0_0
 have HC0_0:=Aside0.mk hc0_0
 clear hr0_0 hc0_0
 have HR0_1:=Aside0.mk hr0_1
 have HC0_1:=Aside0.mk hc0_1
 clear hr0_1 hc0_1
 have HR1:=Aside0.mk hr1
 have HC1:=Aside0.mk hc1
 clear hr1 hc1
 have HB:=Aside0.mk (Below.refl w.heap.size w)
 have H:(if (a3.size:Int)>1048576 then (some true) else ((laws_szSet.f k l0_0 l0_1 1048576).bind fun t876=>(if t876<0 then (some true) else ((laws_szMarkS.f l1 t876).bind fun t877=>(if t877<0 then (some true) else ((laws_toSet.f k l0_0 l0_1).bind fun bt878=>((laws_toMarkS.f k l1).bind fun t884=>((spec_SetPut.f k bt878.1 bt878.2 t884 a2 a3 a4).bind fun bt887=>((laws_toSet.f k l0_0 l0_1).bind fun bt897=>((laws_toMarkS.f k l1).bind fun t904=>((impl_SetPut.f k bt897.1 bt897.2 t904 a2 a3 a4).bind fun bt907=>((laws_eqSetOut.f k bt907.1 bt907.2.1 bt907.2.2.1 bt907.2.2.2.1 bt907.2.2.2.2 bt887.1 bt887.2.1 bt887.2.2.1 bt887.2.2.2.1 bt887.2.2.2.2).bind fun t917=>(if t917=true then ((laws_toSet.f k l0_0 l0_1).bind fun bt918=>((laws_eqSet.f k bt897.1 bt897.2 bt918.1 bt918.2).bind fun t924=>(if t924=true then ((laws_toMarkS.f k l1).bind fun t925=>((laws_eqMarkS.f k t904 t925).bind fun t928=>(if t928=true then ((laws_markSet.f k bt897.1 bt897.2 1).bind fun bt929=>((laws_markMarkS.f k t904 bt929.1).bind fun bt932=>(if bt932.1<0 then (laws_FnExactSetPut.j0 k l1 a2 a3 a4 true l0_0 l0_1 bt887.1 bt887.2.1 bt887.2.2.1 bt887.2.2.2.1 bt887.2.2.2.2 bt907.1 bt907.2.1 bt907.2.2.1 bt907.2.2.2.1 bt907.2.2.2.2) else ((laws_eqSetOut.f k bt907.1 bt907.2.1 bt907.2.2.1 bt907.2.2.2.1 bt907.2.2.2.2 bt887.1 bt887.2.1 bt887.2.2.1 bt887.2.2.2.1 bt887.2.2.2.2).bind fun t934=>(laws_FnExactSetPut.j0 k l1 a2 a3 a4 (!t934) l0_0 l0_1 bt887.1 bt887.2.1 bt887.2.2.1 bt887.2.2.2.1 bt887.2.2.2.2 bt907.1 bt907.2.1 bt907.2.2.1 bt907.2.2.2.1 bt907.2.2.2.2))))) else (none)))) else (none)))) else (none))))))))))))))=some r:=h
 clear h
 by_cases c6:(a3.size:Int)>1048576
 ·rw [if_pos c6] at H
  have c6b0:decide (1048576<(a3.size:Int))=true:=decide_eq_true c6
  have c6b1:decide (1048576<a3.size)=true:=decide_eq_true (by omega)
  clear c6
  obtain rfl:=Option.some.inj H
  go_enter Try.func6,Try.ntmps6
  go_wp2_with (first | ((with_reducible refine gd_ 5 ?_);refine be_ 5 #[.slice A0_0 l0_0.length c0_0,.slice A0_1 l0_1.length c0_1] 32 ?_;intro gb875 hg w7 hbox hb;refine as4_ (below_step (z3_ HB.out) hb) (hbox) ((z7_ HB.out:w.heap.size≤gb875)) ((z7_ HB.out:w.heap.size≤gb875)) ?_;clear HB;intro HB BK875 GW875 GE875;clear hb hbox hg))
  go_ret
  exact ⟨z8_,z6_ HB.out GE875.out⟩
 ·rw [if_neg c6] at H
  have c6b0:decide (1048576<(a3.size:Int))=false:=decide_eq_false c6
  have c6b1:decide (1048576<a3.size)=false:=decide_eq_false (by omega)
  clear c6
  replace H:=Option.bind_eq_some_iff.mp H
  obtain ⟨t876,A80,H⟩:=H
  replace H:(if t876<0 then (some true) else ((laws_szMarkS.f l1 t876).bind fun t877=>(if t877<0 then (some true) else ((laws_toSet.f k l0_0 l0_1).bind fun bt878=>((laws_toMarkS.f k l1).bind fun t884=>((spec_SetPut.f k bt878.1 bt878.2 t884 a2 a3 a4).bind fun bt887=>((laws_toSet.f k l0_0 l0_1).bind fun bt897=>((laws_toMarkS.f k l1).bind fun t904=>((impl_SetPut.f k bt897.1 bt897.2 t904 a2 a3 a4).bind fun bt907=>((laws_eqSetOut.f k bt907.1 bt907.2.1 bt907.2.2.1 bt907.2.2.2.1 bt907.2.2.2.2 bt887.1 bt887.2.1 bt887.2.2.1 bt887.2.2.2.1 bt887.2.2.2.2).bind fun t917=>(if t917=true then ((laws_toSet.f k l0_0 l0_1).bind fun bt918=>((laws_eqSet.f k bt897.1 bt897.2 bt918.1 bt918.2).bind fun t924=>(if t924=true then ((laws_toMarkS.f k l1).bind fun t925=>((laws_eqMarkS.f k t904 t925).bind fun t928=>(if t928=true then ((laws_markSet.f k bt897.1 bt897.2 1).bind fun bt929=>((laws_markMarkS.f k t904 bt929.1).bind fun bt932=>(if bt932.1<0 then (laws_FnExactSetPut.j0 k l1 a2 a3 a4 true l0_0 l0_1 bt887.1 bt887.2.1 bt887.2.2.1 bt887.2.2.2.1 bt887.2.2.2.2 bt907.1 bt907.2.1 bt907.2.2.1 bt907.2.2.2.1 bt907.2.2.2.2) else ((laws_eqSetOut.f k bt907.1 bt907.2.1 bt907.2.2.1 bt907.2.2.2.1 bt907.2.2.2.2 bt887.1 bt887.2.1 bt887.2.2.1 bt887.2.2.2.1 bt887.2.2.2.2).bind fun t934=>(laws_FnExactSetPut.j0 k l1 a2 a3 a4 (!t934) l0_0 l0_1 bt887.1 bt887.2.1 bt887.2.2.1 bt887.2.2.2.1 bt887.2.2.2.2 bt907.1 bt907.2.1 bt907.2.2.1 bt907.2.2.2.1 bt907.2.2.2.2))))) else (none)))) else (none)))) else (none))))))))))))=some r:=H
  have A8:=Aside0.mk A80
  clear A80
  by_cases c9:t876<0
  ·rw [if_pos c9] at H
   have c9b0:decide (t876<0)=true:=decide_eq_true c9
   clear c9
   obtain rfl:=Option.some.inj H
   go_enter Try.func6,Try.ntmps6
   go_wp2_with (first | ((with_reducible refine gd_ 5 ?_);refine be_ 5 #[.slice A0_0 l0_0.length c0_0,.slice A0_1 l0_1.length c0_1] 32 ?_;intro gb875 hg w10 hbox hb;refine as4_ (below_step (z3_ HB.out) hb) (hbox) ((z7_ HB.out:w.heap.size≤gb875)) ((z7_ HB.out:w.heap.size≤gb875)) ?_;clear HB;intro HB BK875 GW875 GE875;clear hb hbox hg;have ⟨hcz11_0,hcz11_1,hfz11_0,hfz11_1⟩:=cz2_ BK875.out) | ((with_reducible refine gc_ 12 ?_);refine gl_ (some 25) Try.func12 #[.agg #[.slice A0_0 l0_0.length c0_0,.slice A0_1 l0_1.length c0_1],.int .i64 1048576] ?_;(with_reducible refine (laws_szSet.calls k _ _ l0_0 _ _ l0_1 1048576 t876 _ ?s1 ?s2 ?s3 ?s4 A8.out).mono ?_);(case s1=>repeat (first | exact (Kd.C_below HR0_0.out HB.out) | (with_reducible refine Kd.C_alloc ?_ _) | (with_reducible refine Kd.C_drewN ?_ _) | (with_reducible refine Kd.C_drew ?_)));(case s2=>exact HC0_0.out);(case s3=>repeat (first | exact (Kd.C_below HR0_1.out HB.out) | (with_reducible refine Kd.C_alloc ?_ _) | (with_reducible refine Kd.C_drewN ?_ _) | (with_reducible refine Kd.C_drew ?_)));(case s4=>exact HC0_1.out);rintro e w12 ⟨rfl,hb⟩;refine ⟨_,rfl,?_⟩;refine as2_ (blkB_ BK875.out hb) (below_step (z6_ HB.out GE875.out) hb) ?_;clear BK875 HB;intro BK875 HB;(try clear hb)))
   go_ret
   exact ⟨z8_,z6_ HB.out GE875.out⟩
  ·rw [if_neg c9] at H
   have c9b0:decide (t876<0)=false:=decide_eq_false c9
   clear c9
   replace H:=Option.bind_eq_some_iff.mp H
   obtain ⟨t877,A130,H⟩:=H
   replace H:(if t877<0 then (some true) else ((laws_toSet.f k l0_0 l0_1).bind fun bt878=>((laws_toMarkS.f k l1).bind fun t884=>((spec_SetPut.f k bt878.1 bt878.2 t884 a2 a3 a4).bind fun bt887=>((laws_toSet.f k l0_0 l0_1).bind fun bt897=>((laws_toMarkS.f k l1).bind fun t904=>((impl_SetPut.f k bt897.1 bt897.2 t904 a2 a3 a4).bind fun bt907=>((laws_eqSetOut.f k bt907.1 bt907.2.1 bt907.2.2.1 bt907.2.2.2.1 bt907.2.2.2.2 bt887.1 bt887.2.1 bt887.2.2.1 bt887.2.2.2.1 bt887.2.2.2.2).bind fun t917=>(if t917=true then ((laws_toSet.f k l0_0 l0_1).bind fun bt918=>((laws_eqSet.f k bt897.1 bt897.2 bt918.1 bt918.2).bind fun t924=>(if t924=true then ((laws_toMarkS.f k l1).bind fun t925=>((laws_eqMarkS.f k t904 t925).bind fun t928=>(if t928=true then ((laws_markSet.f k bt897.1 bt897.2 1).bind fun bt929=>((laws_markMarkS.f k t904 bt929.1).bind fun bt932=>(if bt932.1<0 then (laws_FnExactSetPut.j0 k l1 a2 a3 a4 true l0_0 l0_1 bt887.1 bt887.2.1 bt887.2.2.1 bt887.2.2.2.1 bt887.2.2.2.2 bt907.1 bt907.2.1 bt907.2.2.1 bt907.2.2.2.1 bt907.2.2.2.2) else ((laws_eqSetOut.f k bt907.1 bt907.2.1 bt907.2.2.1 bt907.2.2.2.1 bt907.2.2.2.2 bt887.1 bt887.2.1 bt887.2.2.1 bt887.2.2.2.1 bt887.2.2.2.2).bind fun t934=>(laws_FnExactSetPut.j0 k l1 a2 a3 a4 (!t934) l0_0 l0_1 bt887.1 bt887.2.1 bt887.2.2.1 bt887.2.2.2.1 bt887.2.2.2.2 bt907.1 bt907.2.1 bt907.2.2.1 bt907.2.2.2.1 bt907.2.2.2.2))))) else (none)))) else (none)))) else (none))))))))))=some r:=H
   have A13:=Aside0.mk A130
   clear A130
   by_cases c14:t877<0
   ·rw [if_pos c14] at H
    have c14b0:decide (t877<0)=true:=decide_eq_true c14
    clear c14
    obtain rfl:=Option.some.inj H
    go_enter Try.func6,Try.ntmps6
    go_wp2_with (first | ((with_reducible refine gd_ 5 ?_);refine be_ 5 #[.slice A0_0 l0_0.length c0_0,.slice A0_1 l0_1.length c0_1] 32 ?_;intro gb875 hg w15 hbox hb;refine as4_ (below_step (z3_ HB.out) hb) (hbox) ((z7_ HB.out:w.heap.size≤gb875)) ((z7_ HB.out:w.heap.size≤gb875)) ?_;clear HB;intro HB BK875 GW875 GE875;clear hb hbox hg;have ⟨hcz16_0,hcz16_1,hfz16_0,hfz16_1⟩:=cz2_ BK875.out) | ((with_reducible refine gc_ 12 ?_);refine gl_ (some 25) Try.func12 #[.agg #[.slice A0_0 l0_0.length c0_0,.slice A0_1 l0_1.length c0_1],.int .i64 1048576] ?_;(with_reducible refine (laws_szSet.calls k _ _ l0_0 _ _ l0_1 1048576 t876 _ ?s1 ?s2 ?s3 ?s4 A8.out).mono ?_);(case s1=>repeat (first | exact (Kd.C_below HR0_0.out HB.out) | (with_reducible refine Kd.C_alloc ?_ _) | (with_reducible refine Kd.C_drewN ?_ _) | (with_reducible refine Kd.C_drew ?_)));(case s2=>exact HC0_0.out);(case s3=>repeat (first | exact (Kd.C_below HR0_1.out HB.out) | (with_reducible refine Kd.C_alloc ?_ _) | (with_reducible refine Kd.C_drewN ?_ _) | (with_reducible refine Kd.C_drew ?_)));(case s4=>exact HC0_1.out);rintro e w17 ⟨rfl,hb⟩;refine ⟨_,rfl,?_⟩;refine as2_ (blkB_ BK875.out hb) (below_step (z6_ HB.out GE875.out) hb) ?_;clear BK875 HB;intro BK875 HB;(try clear hb)) | ((with_reducible refine gc_ 29 ?_);refine gl_ (some 30) Try.func29 #[.slice A1 l1.length c1,.int .i64 t876] ?_;(with_reducible refine (laws_szMarkS.calls _ _ l1 t876 t877 _ ?s1 ?s2 A13.out).mono ?_);(case s1=>repeat (first | exact (Kd.C_below HR1.out HB.out) | (with_reducible refine Kd.C_alloc ?_ _) | (with_reducible refine Kd.C_drewN ?_ _) | (with_reducible refine Kd.C_drew ?_)));(case s2=>exact HC1.out);rintro e w' ⟨rfl,⟨nd,rfl⟩⟩;refine ⟨_,rfl,?_⟩))
    go_ret
    exact ⟨z8_,z6_ HB.out GE875.out⟩
   ·rw [if_neg c14] at H
    have c14b0:decide (t877<0)=false:=decide_eq_false c14
    clear c14
    replace H:=Option.bind_eq_some_iff.mp H
    obtain ⟨⟨t878,t881⟩,A180,H⟩:=H
    replace H:((laws_toMarkS.f k l1).bind fun t884=>((spec_SetPut.f k t878 t881 t884 a2 a3 a4).bind fun bt887=>((laws_toSet.f k l0_0 l0_1).bind fun bt897=>((laws_toMarkS.f k l1).bind fun t904=>((impl_SetPut.f k bt897.1 bt897.2 t904 a2 a3 a4).bind fun bt907=>((laws_eqSetOut.f k bt907.1 bt907.2.1 bt907.2.2.1 bt907.2.2.2.1 bt907.2.2.2.2 bt887.1 bt887.2.1 bt887.2.2.1 bt887.2.2.2.1 bt887.2.2.2.2).bind fun t917=>(if t917=true then ((laws_toSet.f k l0_0 l0_1).bind fun bt918=>((laws_eqSet.f k bt897.1 bt897.2 bt918.1 bt918.2).bind fun t924=>(if t924=true then ((laws_toMarkS.f k l1).bind fun t925=>((laws_eqMarkS.f k t904 t925).bind fun t928=>(if t928=true then ((laws_markSet.f k bt897.1 bt897.2 1).bind fun bt929=>((laws_markMarkS.f k t904 bt929.1).bind fun bt932=>(if bt932.1<0 then (laws_FnExactSetPut.j0 k l1 a2 a3 a4 true l0_0 l0_1 bt887.1 bt887.2.1 bt887.2.2.1 bt887.2.2.2.1 bt887.2.2.2.2 bt907.1 bt907.2.1 bt907.2.2.1 bt907.2.2.2.1 bt907.2.2.2.2) else ((laws_eqSetOut.f k bt907.1 bt907.2.1 bt907.2.2.1 bt907.2.2.2.1 bt907.2.2.2.2 bt887.1 bt887.2.1 bt887.2.2.1 bt887.2.2.2.1 bt887.2.2.2.2).bind fun t934=>(laws_FnExactSetPut.j0 k l1 a2 a3 a4 (!t934) l0_0 l0_1 bt887.1 bt887.2.1 bt887.2.2.1 bt887.2.2.2.1 bt887.2.2.2.2 bt907.1 bt907.2.1 bt907.2.2.1 bt907.2.2.2.1 bt907.2.2.2.2))))) else (none)))) else (none)))) else (none))))))))=some r:=H
    have A18:=Aside0.mk A180
    clear A180
    replace H:=Option.bind_eq_some_iff.mp H
    obtain ⟨t884,A190,H⟩:=H
    replace H:((spec_SetPut.f k t878 t881 t884 a2 a3 a4).bind fun bt887=>((laws_toSet.f k l0_0 l0_1).bind fun bt897=>((laws_toMarkS.f k l1).bind fun t904=>((impl_SetPut.f k bt897.1 bt897.2 t904 a2 a3 a4).bind fun bt907=>((laws_eqSetOut.f k bt907.1 bt907.2.1 bt907.2.2.1 bt907.2.2.2.1 bt907.2.2.2.2 bt887.1 bt887.2.1 bt887.2.2.1 bt887.2.2.2.1 bt887.2.2.2.2).bind fun t917=>(if t917=true then ((laws_toSet.f k l0_0 l0_1).bind fun bt918=>((laws_eqSet.f k bt897.1 bt897.2 bt918.1 bt918.2).bind fun t924=>(if t924=true then ((laws_toMarkS.f k l1).bind fun t925=>((laws_eqMarkS.f k t904 t925).bind fun t928=>(if t928=true then ((laws_markSet.f k bt897.1 bt897.2 1).bind fun bt929=>((laws_markMarkS.f k t904 bt929.1).bind fun bt932=>(if bt932.1<0 then (laws_FnExactSetPut.j0 k l1 a2 a3 a4 true l0_0 l0_1 bt887.1 bt887.2.1 bt887.2.2.1 bt887.2.2.2.1 bt887.2.2.2.2 bt907.1 bt907.2.1 bt907.2.2.1 bt907.2.2.2.1 bt907.2.2.2.2) else ((laws_eqSetOut.f k bt907.1 bt907.2.1 bt907.2.2.1 bt907.2.2.2.1 bt907.2.2.2.2 bt887.1 bt887.2.1 bt887.2.2.1 bt887.2.2.2.1 bt887.2.2.2.2).bind fun t934=>(laws_FnExactSetPut.j0 k l1 a2 a3 a4 (!t934) l0_0 l0_1 bt887.1 bt887.2.1 bt887.2.2.1 bt887.2.2.2.1 bt887.2.2.2.2 bt907.1 bt907.2.1 bt907.2.2.1 bt907.2.2.2.1 bt907.2.2.2.2))))) else (none)))) else (none)))) else (none)))))))=some r:=H
    have A19:=Aside0.mk A190
    clear A190
    replace H:=Option.bind_eq_some_iff.mp H
    obtain ⟨⟨t887,t890,t893,t894,t895⟩,A200,H⟩:=H
    replace H:((laws_toSet.f k l0_0 l0_1).bind fun bt897=>((laws_toMarkS.f k l1).bind fun t904=>((impl_SetPut.f k bt897.1 bt897.2 t904 a2 a3 a4).bind fun bt907=>((laws_eqSetOut.f k bt907.1 bt907.2.1 bt907.2.2.1 bt907.2.2.2.1 bt907.2.2.2.2 t887 t890 t893 t894 t895).bind fun t917=>(if t917=true then ((laws_toSet.f k l0_0 l0_1).bind fun bt918=>((laws_eqSet.f k bt897.1 bt897.2 bt918.1 bt918.2).bind fun t924=>(if t924=true then ((laws_toMarkS.f k l1).bind fun t925=>((laws_eqMarkS.f k t904 t925).bind fun t928=>(if t928=true then ((laws_markSet.f k bt897.1 bt897.2 1).bind fun bt929=>((laws_markMarkS.f k t904 bt929.1).bind fun bt932=>(if bt932.1<0 then (laws_FnExactSetPut.j0 k l1 a2 a3 a4 true l0_0 l0_1 t887 t890 t893 t894 t895 bt907.1 bt907.2.1 bt907.2.2.1 bt907.2.2.2.1 bt907.2.2.2.2) else ((laws_eqSetOut.f k bt907.1 bt907.2.1 bt907.2.2.1 bt907.2.2.2.1 bt907.2.2.2.2 t887 t890 t893 t894 t895).bind fun t934=>(laws_FnExactSetPut.j0 k l1 a2 a3 a4 (!t934) l0_0 l0_1 t887 t890 t893 t894 t895 bt907.1 bt907.2.1 bt907.2.2.1 bt907.2.2.2.1 bt907.2.2.2.2))))) else (none)))) else (none)))) else (none))))))=some r:=H
    have A20:=Aside0.mk A200
    clear A200
    replace H:=Option.bind_eq_some_iff.mp H
    obtain ⟨⟨t897,t900⟩,A210,H⟩:=H
    replace H:((laws_toMarkS.f k l1).bind fun t904=>((impl_SetPut.f k t897 t900 t904 a2 a3 a4).bind fun bt907=>((laws_eqSetOut.f k bt907.1 bt907.2.1 bt907.2.2.1 bt907.2.2.2.1 bt907.2.2.2.2 t887 t890 t893 t894 t895).bind fun t917=>(if t917=true then ((laws_toSet.f k l0_0 l0_1).bind fun bt918=>((laws_eqSet.f k t897 t900 bt918.1 bt918.2).bind fun t924=>(if t924=true then ((laws_toMarkS.f k l1).bind fun t925=>((laws_eqMarkS.f k t904 t925).bind fun t928=>(if t928=true then ((laws_markSet.f k t897 t900 1).bind fun bt929=>((laws_markMarkS.f k t904 bt929.1).bind fun bt932=>(if bt932.1<0 then (laws_FnExactSetPut.j0 k l1 a2 a3 a4 true l0_0 l0_1 t887 t890 t893 t894 t895 bt907.1 bt907.2.1 bt907.2.2.1 bt907.2.2.2.1 bt907.2.2.2.2) else ((laws_eqSetOut.f k bt907.1 bt907.2.1 bt907.2.2.1 bt907.2.2.2.1 bt907.2.2.2.2 t887 t890 t893 t894 t895).bind fun t934=>(laws_FnExactSetPut.j0 k l1 a2 a3 a4 (!t934) l0_0 l0_1 t887 t890 t893 t894 t895 bt907.1 bt907.2.1 bt907.2.2.1 bt907.2.2.2.1 bt907.2.2.2.2))))) else (none)))) else (none)))) else (none)))))=some r:=H
    have A21:=Aside0.mk A210
    clear A210
    replace H:=Option.bind_eq_some_iff.mp H
    obtain ⟨t904,A220,H⟩:=H
    replace H:((impl_SetPut.f k t897 t900 t904 a2 a3 a4).bind fun bt907=>((laws_eqSetOut.f k bt907.1 bt907.2.1 bt907.2.2.1 bt907.2.2.2.1 bt907.2.2.2.2 t887 t890 t893 t894 t895).bind fun t917=>(if t917=true then ((laws_toSet.f k l0_0 l0_1).bind fun bt918=>((laws_eqSet.f k t897 t900 bt918.1 bt918.2).bind fun t924=>(if t924=true then ((laws_toMarkS.f k l1).bind fun t925=>((laws_eqMarkS.f k t904 t925).bind fun t928=>(if t928=true then ((laws_markSet.f k t897 t900 1).bind fun bt929=>((laws_markMarkS.f k t904 bt929.1).bind fun bt932=>(if bt932.1<0 then (laws_FnExactSetPut.j0 k l1 a2 a3 a4 true l0_0 l0_1 t887 t890 t893 t894 t895 bt907.1 bt907.2.1 bt907.2.2.1 bt907.2.2.2.1 bt907.2.2.2.2) else ((laws_eqSetOut.f k bt907.1 bt907.2.1 bt907.2.2.1 bt907.2.2.2.1 bt907.2.2.2.2 t887 t890 t893 t894 t895).bind fun t934=>(laws_FnExactSetPut.j0 k l1 a2 a3 a4 (!t934) l0_0 l0_1 t887 t890 t893 t894 t895 bt907.1 bt907.2.1 bt907.2.2.1 bt907.2.2.2.1 bt907.2.2.2.2))))) else (none)))) else (none)))) else (none))))=some r:=H
    have A22:=Aside0.mk A220
    clear A220
    replace H:=Option.bind_eq_some_iff.mp H
    obtain ⟨⟨t907,t910,t913,t914,t915⟩,A230,H⟩:=H
    replace H:((laws_eqSetOut.f k t907 t910 t913 t914 t915 t887 t890 t893 t894 t895).bind fun t917=>(if t917=true then ((laws_toSet.f k l0_0 l0_1).bind fun bt918=>((laws_eqSet.f k t897 t900 bt918.1 bt918.2).bind fun t924=>(if t924=true then ((laws_toMarkS.f k l1).bind fun t925=>((laws_eqMarkS.f k t904 t925).bind fun t928=>(if t928=true then ((laws_markSet.f k t897 t900 1).bind fun bt929=>((laws_markMarkS.f k t904 bt929.1).bind fun bt932=>(if bt932.1<0 then (laws_FnExactSetPut.j0 k l1 a2 a3 a4 true l0_0 l0_1 t887 t890 t893 t894 t895 t907 t910 t913 t914 t915) else ((laws_eqSetOut.f k t907 t910 t913 t914 t915 t887 t890 t893 t894 t895).bind fun t934=>(laws_FnExactSetPut.j0 k l1 a2 a3 a4 (!t934) l0_0 l0_1 t887 t890 t893 t894 t895 t907 t910 t913 t914 t915))))) else (none)))) else (none)))) else (none)))=some r:=H
    have A23:=Aside0.mk A230
    clear A230
    replace H:=Option.bind_eq_some_iff.mp H
    obtain ⟨t917,A240,H⟩:=H
    replace H:(if t917=true then ((laws_toSet.f k l0_0 l0_1).bind fun bt918=>((laws_eqSet.f k t897 t900 bt918.1 bt918.2).bind fun t924=>(if t924=true then ((laws_toMarkS.f k l1).bind fun t925=>((laws_eqMarkS.f k t904 t925).bind fun t928=>(if t928=true then ((laws_markSet.f k t897 t900 1).bind fun bt929=>((laws_markMarkS.f k t904 bt929.1).bind fun bt932=>(if bt932.1<0 then (laws_FnExactSetPut.j0 k l1 a2 a3 a4 true l0_0 l0_1 t887 t890 t893 t894 t895 t907 t910 t913 t914 t915) else ((laws_eqSetOut.f k t907 t910 t913 t914 t915 t887 t890 t893 t894 t895).bind fun t934=>(laws_FnExactSetPut.j0 k l1 a2 a3 a4 (!t934) l0_0 l0_1 t887 t890 t893 t894 t895 t907 t910 t913 t914 t915))))) else (none)))) else (none)))) else (none))=some r:=H
    have A24:=Aside0.mk A240
    clear A240
    by_cases c25:t917=true
    ·subst c25
     have H1:((laws_toSet.f k l0_0 l0_1).bind fun bt918=>((laws_eqSet.f k t897 t900 bt918.1 bt918.2).bind fun t924=>(if t924=true then ((laws_toMarkS.f k l1).bind fun t925=>((laws_eqMarkS.f k t904 t925).bind fun t928=>(if t928=true then ((laws_markSet.f k t897 t900 1).bind fun bt929=>((laws_markMarkS.f k t904 bt929.1).bind fun bt932=>(if bt932.1<0 then (laws_FnExactSetPut.j0 k l1 a2 a3 a4 true l0_0 l0_1 t887 t890 t893 t894 t895 t907 t910 t913 t914 t915) else ((laws_eqSetOut.f k t907 t910 t913 t914 t915 t887 t890 t893 t894 t895).bind fun t934=>(laws_FnExactSetPut.j0 k l1 a2 a3 a4 (!t934) l0_0 l0_1 t887 t890 t893 t894 t895 t907 t910 t913 t914 t915))))) else (none)))) else (none))))=some r:=by rw [if_pos rfl] at H;exact H
     clear H
     have H:=H1
     clear H1
     replace H:=Option.bind_eq_some_iff.mp H
     obtain ⟨⟨t918,t921⟩,A260,H⟩:=H
     replace H:((laws_eqSet.f k t897 t900 t918 t921).bind fun t924=>(if t924=true then ((laws_toMarkS.f k l1).bind fun t925=>((laws_eqMarkS.f k t904 t925).bind fun t928=>(if t928=true then ((laws_markSet.f k t897 t900 1).bind fun bt929=>((laws_markMarkS.f k t904 bt929.1).bind fun bt932=>(if bt932.1<0 then (laws_FnExactSetPut.j0 k l1 a2 a3 a4 true l0_0 l0_1 t887 t890 t893 t894 t895 t907 t910 t913 t914 t915) else ((laws_eqSetOut.f k t907 t910 t913 t914 t915 t887 t890 t893 t894 t895).bind fun t934=>(laws_FnExactSetPut.j0 k l1 a2 a3 a4 (!t934) l0_0 l0_1 t887 t890 t893 t894 t895 t907 t910 t913 t914 t915))))) else (none)))) else (none)))=some r:=H
     have A26:=Aside0.mk A260
     clear A260
     replace H:=Option.bind_eq_some_iff.mp H
     obtain ⟨t924,A270,H⟩:=H
     replace H:(if t924=true then ((laws_toMarkS.f k l1).bind fun t925=>((laws_eqMarkS.f k t904 t925).bind fun t928=>(if t928=true then ((laws_markSet.f k t897 t900 1).bind fun bt929=>((laws_markMarkS.f k t904 bt929.1).bind fun bt932=>(if bt932.1<0 then (laws_FnExactSetPut.j0 k l1 a2 a3 a4 true l0_0 l0_1 t887 t890 t893 t894 t895 t907 t910 t913 t914 t915) else ((laws_eqSetOut.f k t907 t910 t913 t914 t915 t887 t890 t893 t894 t895).bind fun t934=>(laws_FnExactSetPut.j0 k l1 a2 a3 a4 (!t934) l0_0 l0_1 t887 t890 t893 t894 t895 t907 t910 t913 t914 t915))))) else (none)))) else (none))=some r:=H
     have A27:=Aside0.mk A270
     clear A270
     by_cases c28:t924=true
     ·subst c28
      have H1:((laws_toMarkS.f k l1).bind fun t925=>((laws_eqMarkS.f k t904 t925).bind fun t928=>(if t928=true then ((laws_markSet.f k t897 t900 1).bind fun bt929=>((laws_markMarkS.f k t904 bt929.1).bind fun bt932=>(if bt932.1<0 then (laws_FnExactSetPut.j0 k l1 a2 a3 a4 true l0_0 l0_1 t887 t890 t893 t894 t895 t907 t910 t913 t914 t915) else ((laws_eqSetOut.f k t907 t910 t913 t914 t915 t887 t890 t893 t894 t895).bind fun t934=>(laws_FnExactSetPut.j0 k l1 a2 a3 a4 (!t934) l0_0 l0_1 t887 t890 t893 t894 t895 t907 t910 t913 t914 t915))))) else (none))))=some r:=by rw [if_pos rfl] at H;exact H
      clear H
      have H:=H1
      clear H1
      replace H:=Option.bind_eq_some_iff.mp H
      obtain ⟨t925,A290,H⟩:=H
      replace H:((laws_eqMarkS.f k t904 t925).bind fun t928=>(if t928=true then ((laws_markSet.f k t897 t900 1).bind fun bt929=>((laws_markMarkS.f k t904 bt929.1).bind fun bt932=>(if bt932.1<0 then (laws_FnExactSetPut.j0 k l1 a2 a3 a4 true l0_0 l0_1 t887 t890 t893 t894 t895 t907 t910 t913 t914 t915) else ((laws_eqSetOut.f k t907 t910 t913 t914 t915 t887 t890 t893 t894 t895).bind fun t934=>(laws_FnExactSetPut.j0 k l1 a2 a3 a4 (!t934) l0_0 l0_1 t887 t890 t893 t894 t895 t907 t910 t913 t914 t915))))) else (none)))=some r:=H
      have A29:=Aside0.mk A290
      clear A290
      replace H:=Option.bind_eq_some_iff.mp H
      obtain ⟨t928,A300,H⟩:=H
      replace H:(if t928=true then ((laws_markSet.f k t897 t900 1).bind fun bt929=>((laws_markMarkS.f k t904 bt929.1).bind fun bt932=>(if bt932.1<0 then (laws_FnExactSetPut.j0 k l1 a2 a3 a4 true l0_0 l0_1 t887 t890 t893 t894 t895 t907 t910 t913 t914 t915) else ((laws_eqSetOut.f k t907 t910 t913 t914 t915 t887 t890 t893 t894 t895).bind fun t934=>(laws_FnExactSetPut.j0 k l1 a2 a3 a4 (!t934) l0_0 l0_1 t887 t890 t893 t894 t895 t907 t910 t913 t914 t915))))) else (none))=some r:=H
      have A30:=Aside0.mk A300
      clear A300
      by_cases c31:t928=true
      ·subst c31
       have H1:((laws_markSet.f k t897 t900 1).bind fun bt929=>((laws_markMarkS.f k t904 bt929.1).bind fun bt932=>(if bt932.1<0 then (laws_FnExactSetPut.j0 k l1 a2 a3 a4 true l0_0 l0_1 t887 t890 t893 t894 t895 t907 t910 t913 t914 t915) else ((laws_eqSetOut.f k t907 t910 t913 t914 t915 t887 t890 t893 t894 t895).bind fun t934=>(laws_FnExactSetPut.j0 k l1 a2 a3 a4 (!t934) l0_0 l0_1 t887 t890 t893 t894 t895 t907 t910 t913 t914 t915)))))=some r:=by rw [if_pos rfl] at H;exact H
       clear H
       have H:=H1
       clear H1
       replace H:=Option.bind_eq_some_iff.mp H
       obtain ⟨⟨t929,t930,t931⟩,A320,H⟩:=H
       replace H:((laws_markMarkS.f k t904 t929).bind fun bt932=>(if bt932.1<0 then (laws_FnExactSetPut.j0 k l1 a2 a3 a4 true l0_0 l0_1 t887 t890 t893 t894 t895 t907 t910 t913 t914 t915) else ((laws_eqSetOut.f k t907 t910 t913 t914 t915 t887 t890 t893 t894 t895).bind fun t934=>(laws_FnExactSetPut.j0 k l1 a2 a3 a4 (!t934) l0_0 l0_1 t887 t890 t893 t894 t895 t907 t910 t913 t914 t915))))=some r:=H
       have A32:=Aside0.mk A320
       clear A320
       replace H:=Option.bind_eq_some_iff.mp H
       obtain ⟨⟨t932,t933⟩,A330,H⟩:=H
       replace H:(if t932<0 then (laws_FnExactSetPut.j0 k l1 a2 a3 a4 true l0_0 l0_1 t887 t890 t893 t894 t895 t907 t910 t913 t914 t915) else ((laws_eqSetOut.f k t907 t910 t913 t914 t915 t887 t890 t893 t894 t895).bind fun t934=>(laws_FnExactSetPut.j0 k l1 a2 a3 a4 (!t934) l0_0 l0_1 t887 t890 t893 t894 t895 t907 t910 t913 t914 t915)))=some r:=H
       have A33:=Aside0.mk A330
       clear A330
       have HC34:=Aside0.mk H
       clear H
       go_enter Try.func6,Try.ntmps6
       try go_wp2_with (first | ((with_reducible refine gd_ 5 ?_);refine be_ 5 #[.slice A0_0 l0_0.length c0_0,.slice A0_1 l0_1.length c0_1] 32 ?_;intro gb875 hg w35 hbox hb;refine as4_ (below_step (z3_ HB.out) hb) (hbox) ((z7_ HB.out:w.heap.size≤gb875)) ((z7_ HB.out:w.heap.size≤gb875)) ?_;clear HB;intro HB BK875 GW875 GE875;clear hb hbox hg;have ⟨hcz36_0,hcz36_1,hfz36_0,hfz36_1⟩:=cz2_ BK875.out) | ((with_reducible refine gc_ 12 ?_);refine gl_ (some 25) Try.func12 #[.agg #[.slice A0_0 l0_0.length c0_0,.slice A0_1 l0_1.length c0_1],.int .i64 1048576] ?_;(with_reducible refine (laws_szSet.calls k _ _ l0_0 _ _ l0_1 1048576 t876 _ ?s1 ?s2 ?s3 ?s4 A8.out).mono ?_);(case s1=>repeat (first | exact (Kd.C_below HR0_0.out HB.out) | (with_reducible refine Kd.C_alloc ?_ _) | (with_reducible refine Kd.C_drewN ?_ _) | (with_reducible refine Kd.C_drew ?_)));(case s2=>exact HC0_0.out);(case s3=>repeat (first | exact (Kd.C_below HR0_1.out HB.out) | (with_reducible refine Kd.C_alloc ?_ _) | (with_reducible refine Kd.C_drewN ?_ _) | (with_reducible refine Kd.C_drew ?_)));(case s4=>exact HC0_1.out);rintro e w37 ⟨rfl,hb⟩;refine ⟨_,rfl,?_⟩;refine as2_ (blkB_ BK875.out hb) (below_step (z6_ HB.out GE875.out) hb) ?_;clear BK875 HB;intro BK875 HB;(try clear hb)) | ((with_reducible refine gc_ 29 ?_);refine gl_ (some 30) Try.func29 #[.slice A1 l1.length c1,.int .i64 t876] ?_;(with_reducible refine (laws_szMarkS.calls _ _ l1 t876 t877 _ ?s1 ?s2 A13.out).mono ?_);(case s1=>repeat (first | exact (Kd.C_below HR1.out HB.out) | (with_reducible refine Kd.C_alloc ?_ _) | (with_reducible refine Kd.C_drewN ?_ _) | (with_reducible refine Kd.C_drew ?_)));(case s2=>exact HC1.out);rintro e w' ⟨rfl,⟨nd,rfl⟩⟩;refine ⟨_,rfl,?_⟩;(try (rw [drewN_self w37];generalize hq_:World.drewN w37 _=w37;have n0_:Aside0 (w37.heap[gb875]? = some (.cells #[.slice A0_0 l0_0.length c0_0,.slice A0_1 l0_1.length c0_1] 32 (0,0))):=⟨by rw [← hq_];exact (by (with_reducible repeat (first | refine blk_drewN ?_ _ | refine blk_drew ?_ | refine blk_alloc ?_ _));exact BK875.out)⟩;have n1_:Aside0 (Below w.heap.size w w37):=⟨by rw [← hq_];exact (by repeat (first | (with_reducible first | exact HB.out | apply below_alloc | apply pw_below_drewN | apply below_drew1 | refine below_set ?_ GE875.out) | exact HB.out))⟩;clear BK875 HB hq_;have BK875:=n0_;have HB:=n1_;clear n0_ n1_));have ⟨hcz38_0,hcz38_1,hfz38_0,hfz38_1⟩:=cz2_ BK875.out) | ((with_reducible refine gc_ 15 ?_);refine gl_ (some 34) Try.func15 #[.agg #[.slice A0_0 l0_0.length c0_0,.slice A0_1 l0_1.length c0_1]] ?_;(with_reducible refine (laws_toSet.calls k _ _ l0_0 _ _ l0_1 t878 t881 _ ?s1 ?s2 ?s3 ?s4 A18.out).mono ?_);(case s1=>repeat (first | exact (Kd.C_below HR0_0.out HB.out) | (with_reducible refine Kd.C_alloc ?_ _) | (with_reducible refine Kd.C_drewN ?_ _) | (with_reducible refine Kd.C_drew ?_)));(case s2=>exact HC0_0.out);(case s3=>repeat (first | exact (Kd.C_below HR0_1.out HB.out) | (with_reducible refine Kd.C_alloc ?_ _) | (with_reducible refine Kd.C_drewN ?_ _) | (with_reducible refine Kd.C_drew ?_)));(case s4=>exact HC0_1.out);rintro e w39 ⟨v879,v882,rfl,ho0,ho1,hb⟩;refine ⟨_,rfl,?_⟩;refine as4_ (Kd.R_lower ho0 (below_size (z6_ HB.out GE875.out))) (Kd.R_lower ho1 (below_size (z6_ HB.out GE875.out))) (blkB_ BK875.out hb) (below_step (z6_ HB.out GE875.out) hb) ?_;clear BK875 HB;intro HO880 HO883 BK875 HB;(try clear hb);(try clear ho0);(try clear ho1)) | ((with_reducible refine gc_ 31 ?_);refine gl_ (some 36) Try.func31 #[.slice A1 l1.length c1] ?_;(with_reducible refine (laws_toMarkS.calls k _ _ l1 t884 _ ?s1 ?s2 A19.out).mono ?_);(case s1=>repeat (first | exact (Kd.C_below HR1.out HB.out) | (with_reducible refine Kd.C_alloc ?_ _) | (with_reducible refine Kd.C_drewN ?_ _) | (with_reducible refine Kd.C_drew ?_)));(case s2=>exact HC1.out);rintro e w40 ⟨v885,rfl,ho0,hb⟩;refine ⟨_,rfl,?_⟩;refine as5_ (Kd.R_elder' (z0_ HO880.out) (Kd.R_base ho0) hb) (Kd.R_below (z0_ HO883.out) hb) (Kd.R_lower (Kd.R_new' ho0 (Kd.R_lt (z0_ HO880.out))) (below_size (z6_ HB.out GE875.out))) (blkB_ BK875.out hb) (below_step (z6_ HB.out GE875.out) hb) ?_;clear HO880 HO883 BK875 HB;intro HO880 HO883 HO886 BK875 HB;(try clear hb);(try clear ho0);obtain ⟨Ao41,co41,eo41⟩:=Kd.R_slice HO880.out;subst eo41;obtain ⟨Ao42,co42,eo42⟩:=Kd.R_slice HO883.out;subst eo42;obtain ⟨Ao43,co43,eo43⟩:=Kd.R_slice HO886.out;subst eo43) | ((with_reducible refine gc_ 30 ?_);refine gl_ (some 40) Try.func30 #[.agg #[.slice Ao41 t878.length co41,.slice Ao42 t881.length co42],.slice Ao43 t884.length co43,.int .i64 a2,.string a3,.bool a4] ?_;(with_reducible refine (spec_SetPut.calls k _ _ t878 _ _ t881 _ _ t884 a2 a3 a4 t887 t890 t893 t894 t895 _ ?s1 ?s2 ?s3 ?s4 ?s5 ?s6 A20.out).mono ?_);(case s1=>repeat (first | exact (Kd.R_reads' HO880.out).2.2 | (with_reducible refine Kd.C_alloc ?_ _) | (with_reducible refine Kd.C_drewN ?_ _) | (with_reducible refine Kd.C_drew ?_)));(case s2=>exact (Kd.R_reads' HO880.out).2.1);(case s3=>repeat (first | exact (Kd.R_reads' HO883.out).2.2 | (with_reducible refine Kd.C_alloc ?_ _) | (with_reducible refine Kd.C_drewN ?_ _) | (with_reducible refine Kd.C_drew ?_)));(case s4=>exact (Kd.R_reads' HO883.out).2.1);(case s5=>repeat (first | exact (Kd.R_reads' HO886.out).2.2 | (with_reducible refine Kd.C_alloc ?_ _) | (with_reducible refine Kd.C_drewN ?_ _) | (with_reducible refine Kd.C_drew ?_)));(case s6=>exact (Kd.R_reads' HO886.out).2.1);rintro e w44 ⟨v888,v891,rfl,ho0,ho1,hb⟩;refine ⟨_,rfl,?_⟩;refine as7_ (Kd.R_elder' (z0_ HO880.out) (Kd.R_base ho0) hb) (Kd.R_elder' (z0_ HO883.out) (Kd.R_base ho1) hb) (Kd.R_elder' (z0_ HO886.out) (Kd.R_base ho0) hb) (Kd.R_lower (Kd.R_new' (Kd.R_new' ho0 (Kd.R_lt (z0_ HO880.out))) (Kd.R_lt (z0_ HO886.out))) (below_size (z6_ HB.out GE875.out))) (Kd.R_lower (Kd.R_new' ho1 (Kd.R_lt (z0_ HO883.out))) (below_size (z6_ HB.out GE875.out))) (blkB_ BK875.out hb) (below_step (z6_ HB.out GE875.out) hb) ?_;clear HO880 HO883 HO886 BK875 HB;intro HO880 HO883 HO886 HO889 HO892 BK875 HB;(try clear hb);(try clear ho0);(try clear ho1)) | ((with_reducible refine gd_ 12 ?_);refine be_ 12 #[.slice none 0 0,.slice none 0 0,.int .i64 0,.int .i64 0,.int .i64 0] 58 ?_;intro gb896 hg w45 hbox hb;refine as12_ (Kd.R_below (z0_ HO880.out) hb) (Kd.R_below (z0_ HO883.out) hb) (Kd.R_below (z0_ HO886.out) hb) (Kd.R_below (z0_ HO889.out) hb) (Kd.R_below (z0_ HO892.out) hb) (blkB_ BK875.out hb) (below_step (z6_ HB.out GE875.out) hb) (hbox) ((z9_ HB.out GE875.out:w.heap.size≤gb896)) ((z9_ HB.out GE875.out:w.heap.size≤gb896)) (neL_ BK875.out hg) (neG_ BK875.out hg) ?_;clear HO880 HO883 HO886 HO889 HO892 BK875 HB;intro HO880 HO883 HO886 HO889 HO892 BK875 HB BK896 GW896 GE896 NB875_896 NB896_875;clear hb hbox hg;obtain ⟨Ao46,co46,eo46⟩:=Kd.R_slice HO889.out;subst eo46;have hnb47:=NB896_875.out;have hnc47:=NB875_896.out;have ⟨hcz48_0,hcz48_1,hcz48_2,hcz48_3,hcz48_4,hfz48_0,hfz48_1,hfz48_2,hfz48_3,hfz48_4⟩:=cz5_ BK896.out;obtain ⟨Ao49,co49,eo49⟩:=Kd.R_slice HO892.out;subst eo49;have ⟨hcz50_0,hcz50_1,hfz50_0,hfz50_1⟩:=cz2_ BK875.out) | ((with_reducible refine gc_ 15 ?_);refine gl_ (some 42) Try.func15 #[.agg #[.slice A0_0 l0_0.length c0_0,.slice A0_1 l0_1.length c0_1]] ?_;(with_reducible refine (laws_toSet.calls k _ _ l0_0 _ _ l0_1 t897 t900 _ ?s1 ?s2 ?s3 ?s4 A21.out).mono ?_);(case s1=>exact Kd.C_below HR0_0.out (z4_ HB.out GE875.out GE896.out));(case s2=>exact HC0_0.out);(case s3=>exact Kd.C_below HR0_1.out (z4_ HB.out GE875.out GE896.out));(case s4=>exact HC0_1.out);rintro e w51 ⟨v898,v901,rfl,ho0,ho1,hb⟩;refine ⟨_,rfl,?_⟩;refine as10_ (Kd.R_elder' (z12_ HO880.out BK896.out) (Kd.R_base ho0) hb) (Kd.R_elder' (z12_ HO883.out BK896.out) (Kd.R_base ho1) hb) (Kd.R_elder' (z12_ HO886.out BK896.out) (Kd.R_base ho0) hb) (Kd.R_elder' (z12_ HO889.out BK896.out) (Kd.R_base ho0) hb) (Kd.R_elder' (z12_ HO892.out BK896.out) (Kd.R_base ho1) hb) (Kd.R_lower (Kd.R_new' (Kd.R_new' (Kd.R_new' ho0 (Kd.R_lt (z12_ HO880.out BK896.out))) (Kd.R_lt (z12_ HO886.out BK896.out))) (Kd.R_lt (z12_ HO889.out BK896.out))) (below_size (z4_ HB.out GE875.out GE896.out))) (Kd.R_lower (Kd.R_new' (Kd.R_new' ho1 (Kd.R_lt (z12_ HO883.out BK896.out))) (Kd.R_lt (z12_ HO892.out BK896.out))) (below_size (z4_ HB.out GE875.out GE896.out))) (blk_below (g:=gb875) (o:=.cells #[.slice A0_0 l0_0.length c0_0,.slice A0_1 l0_1.length c0_1] 32 (0,0)) (z31_ NB875_896.out BK875.out) hb) (blk_below (g:=gb896) (o:=.cells #[.slice Ao46 t887.length co46,.slice Ao49 t890.length co49,.int .i64 t893,.int .i64 t894,.int .i64 t895] 58 (0,0)) (z24_ BK896.out) hb) (below_step (z4_ HB.out GE875.out GE896.out) hb) ?_;clear HO880 HO883 HO886 HO889 HO892 BK875 BK896 HB;intro HO880 HO883 HO886 HO889 HO892 HO899 HO902 BK875 BK896 HB;(try clear hb);(try clear hb2);(try clear hk);(try clear hi);(try clear ho0);(try clear ho1)) | ((with_reducible refine gd_ 13 ?_);refine be_ 13 #[.slice none 0 0,.slice none 0 0] 40 ?_;intro gb903 hg w52 hbox hb;refine as17_ (Kd.R_below (z0_ HO880.out) hb) (Kd.R_below (z0_ HO883.out) hb) (Kd.R_below (z0_ HO886.out) hb) (Kd.R_below (z0_ HO889.out) hb) (Kd.R_below (z0_ HO892.out) hb) (Kd.R_below (z0_ HO899.out) hb) (Kd.R_below (z0_ HO902.out) hb) (blkB_ BK875.out hb) (blkB_ BK896.out hb) (below_step (z4_ HB.out GE875.out GE896.out) hb) (hbox) ((z20_ HB.out GE875.out GE896.out:w.heap.size≤gb903)) ((z20_ HB.out GE875.out GE896.out:w.heap.size≤gb903)) (neL_ BK875.out hg) (neG_ BK875.out hg) (neL_ BK896.out hg) (neG_ BK896.out hg) ?_;clear HO880 HO883 HO886 HO889 HO892 HO899 HO902 BK875 BK896 HB;intro HO880 HO883 HO886 HO889 HO892 HO899 HO902 BK875 BK896 HB BK903 GW903 GE903 NB875_903 NB903_875 NB896_903 NB903_896;clear hb hbox hg;obtain ⟨Ao53,co53,eo53⟩:=Kd.R_slice HO899.out;subst eo53;have hnb54:=NB903_875.out;have hnc54:=NB875_903.out;have hnb55:=NB903_896.out;have hnc55:=NB896_903.out;have ⟨hcz56_0,hcz56_1,hfz56_0,hfz56_1⟩:=cz2_ BK903.out;obtain ⟨Ao57,co57,eo57⟩:=Kd.R_slice HO902.out;subst eo57) | ((with_reducible refine gc_ 31 ?_);refine gl_ (some 44) Try.func31 #[.slice A1 l1.length c1] ?_;(with_reducible refine (laws_toMarkS.calls k _ _ l1 t904 _ ?s1 ?s2 A22.out).mono ?_);(case s1=>exact Kd.C_below HR1.out (z13_ HB.out GE875.out GE896.out GE903.out));(case s2=>exact HC1.out);rintro e w58 ⟨v905,rfl,ho0,hb⟩;refine ⟨_,rfl,?_⟩;refine as12_ (Kd.R_elder' (z17_ HO880.out BK903.out) (Kd.R_base ho0) hb) (Kd.R_below (z17_ HO883.out BK903.out) hb) (Kd.R_elder' (z17_ HO886.out BK903.out) (Kd.R_base ho0) hb) (Kd.R_elder' (z17_ HO889.out BK903.out) (Kd.R_base ho0) hb) (Kd.R_below (z17_ HO892.out BK903.out) hb) (Kd.R_elder' (z17_ HO899.out BK903.out) (Kd.R_base ho0) hb) (Kd.R_below (z17_ HO902.out BK903.out) hb) (Kd.R_lower (Kd.R_new' (Kd.R_new' (Kd.R_new' (Kd.R_new' ho0 (Kd.R_lt (z17_ HO880.out BK903.out))) (Kd.R_lt (z17_ HO886.out BK903.out))) (Kd.R_lt (z17_ HO889.out BK903.out))) (Kd.R_lt (z17_ HO899.out BK903.out))) (below_size (z13_ HB.out GE875.out GE896.out GE903.out))) (blk_below (g:=gb875) (o:=.cells #[.slice A0_0 l0_0.length c0_0,.slice A0_1 l0_1.length c0_1] 32 (0,0)) (z18_ NB875_903.out BK875.out) hb) (blk_below (g:=gb896) (o:=.cells #[.slice Ao46 t887.length co46,.slice Ao49 t890.length co49,.int .i64 t893,.int .i64 t894,.int .i64 t895] 58 (0,0)) (z18_ NB896_903.out BK896.out) hb) (blk_below (g:=gb903) (o:=.cells #[.slice Ao53 t897.length co53,.slice Ao57 t900.length co57] 40 (0,0)) (z21_ BK903.out) hb) (below_step (z13_ HB.out GE875.out GE896.out GE903.out) hb) ?_;clear HO880 HO883 HO886 HO889 HO892 HO899 HO902 BK875 BK896 BK903 HB;intro HO880 HO883 HO886 HO889 HO892 HO899 HO902 HO906 BK875 BK896 BK903 HB;(try clear hb);(try clear hb2);(try clear hk);(try clear hi);(try clear ho0);have ⟨hcz59_0,hcz59_1,hfz59_0,hfz59_1⟩:=cz2_ BK903.out;obtain ⟨Ao60,co60,eo60⟩:=Kd.R_slice HO906.out;subst eo60) | ((with_reducible refine gc_ 32 ?_);refine gl_ (some 50) Try.func32 #[.agg #[.slice Ao53 t897.length co53,.slice Ao57 t900.length co57],.slice Ao60 t904.length co60,.int .i64 a2,.string a3,.bool a4] ?_;(with_reducible refine (impl_SetPut.calls k _ _ t897 _ _ t900 _ _ t904 a2 a3 a4 t907 t910 t913 t914 t915 _ ?s1 ?s2 ?s3 ?s4 ?s5 ?s6 A23.out).mono ?_);(case s1=>repeat (first | exact (Kd.R_reads' HO899.out).2.2 | (with_reducible refine Kd.C_alloc ?_ _) | (with_reducible refine Kd.C_drewN ?_ _) | (with_reducible refine Kd.C_drew ?_)));(case s2=>exact (Kd.R_reads' HO899.out).2.1);(case s3=>repeat (first | exact (Kd.R_reads' HO902.out).2.2 | (with_reducible refine Kd.C_alloc ?_ _) | (with_reducible refine Kd.C_drewN ?_ _) | (with_reducible refine Kd.C_drew ?_)));(case s4=>exact (Kd.R_reads' HO902.out).2.1);(case s5=>repeat (first | exact (Kd.R_reads' HO906.out).2.2 | (with_reducible refine Kd.C_alloc ?_ _) | (with_reducible refine Kd.C_drewN ?_ _) | (with_reducible refine Kd.C_drew ?_)));(case s6=>exact (Kd.R_reads' HO906.out).2.1);rintro e w61 ⟨v908,v911,rfl,ho0,ho1,hb⟩;refine ⟨_,rfl,?_⟩;refine as14_ (Kd.R_elder' (z0_ HO880.out) (Kd.R_base ho0) hb) (Kd.R_elder' (z0_ HO883.out) (Kd.R_base ho1) hb) (Kd.R_elder' (z0_ HO886.out) (Kd.R_base ho0) hb) (Kd.R_elder' (z0_ HO889.out) (Kd.R_base ho0) hb) (Kd.R_elder' (z0_ HO892.out) (Kd.R_base ho1) hb) (Kd.R_elder' (z0_ HO899.out) (Kd.R_base ho0) hb) (Kd.R_elder' (z0_ HO902.out) (Kd.R_base ho1) hb) (Kd.R_elder' (z0_ HO906.out) (Kd.R_base ho0) hb) (Kd.R_lower (Kd.R_new' (Kd.R_new' (Kd.R_new' (Kd.R_new' (Kd.R_new' ho0 (Kd.R_lt (z0_ HO880.out))) (Kd.R_lt (z0_ HO886.out))) (Kd.R_lt (z0_ HO889.out))) (Kd.R_lt (z0_ HO899.out))) (Kd.R_lt (z0_ HO906.out))) (below_size (z13_ HB.out GE875.out GE896.out GE903.out))) (Kd.R_lower (Kd.R_new' (Kd.R_new' (Kd.R_new' ho1 (Kd.R_lt (z0_ HO883.out))) (Kd.R_lt (z0_ HO892.out))) (Kd.R_lt (z0_ HO902.out))) (below_size (z13_ HB.out GE875.out GE896.out GE903.out))) (blkB_ BK875.out hb) (blkB_ BK896.out hb) (blkB_ BK903.out hb) (below_step (z13_ HB.out GE875.out GE896.out GE903.out) hb) ?_;clear HO880 HO883 HO886 HO889 HO892 HO899 HO902 HO906 BK875 BK896 BK903 HB;intro HO880 HO883 HO886 HO889 HO892 HO899 HO902 HO906 HO909 HO912 BK875 BK896 BK903 HB;(try clear hb);(try clear ho0);(try clear ho1)) | ((with_reducible refine gd_ 15 ?_);refine be_ 15 #[.slice none 0 0,.slice none 0 0,.int .i64 0,.int .i64 0,.int .i64 0] 58 ?_;intro gb916 hg w62 hbox hb;refine as23_ (Kd.R_below (z0_ HO880.out) hb) (Kd.R_below (z0_ HO883.out) hb) (Kd.R_below (z0_ HO886.out) hb) (Kd.R_below (z0_ HO889.out) hb) (Kd.R_below (z0_ HO892.out) hb) (Kd.R_below (z0_ HO899.out) hb) (Kd.R_below (z0_ HO902.out) hb) (Kd.R_below (z0_ HO906.out) hb) (Kd.R_below (z0_ HO909.out) hb) (Kd.R_below (z0_ HO912.out) hb) (blkB_ BK875.out hb) (blkB_ BK896.out hb) (blkB_ BK903.out hb) (below_step (z13_ HB.out GE875.out GE896.out GE903.out) hb) (hbox) ((z30_ HB.out GE875.out GE896.out GE903.out:w.heap.size≤gb916)) ((z30_ HB.out GE875.out GE896.out GE903.out:w.heap.size≤gb916)) (neL_ BK875.out hg) (neG_ BK875.out hg) (neL_ BK896.out hg) (neG_ BK896.out hg) (neL_ BK903.out hg) (neG_ BK903.out hg) ?_;clear HO880 HO883 HO886 HO889 HO892 HO899 HO902 HO906 HO909 HO912 BK875 BK896 BK903 HB;intro HO880 HO883 HO886 HO889 HO892 HO899 HO902 HO906 HO909 HO912 BK875 BK896 BK903 HB BK916 GW916 GE916 NB875_916 NB916_875 NB896_916 NB916_896 NB903_916 NB916_903;clear hb hbox hg;obtain ⟨Ao63,co63,eo63⟩:=Kd.R_slice HO909.out;subst eo63;have hnb64:=NB916_875.out;have hnc64:=NB875_916.out;have hnb65:=NB916_896.out;have hnc65:=NB896_916.out;have hnb66:=NB916_903.out;have hnc66:=NB903_916.out;have ⟨hcz67_0,hcz67_1,hcz67_2,hcz67_3,hcz67_4,hfz67_0,hfz67_1,hfz67_2,hfz67_3,hfz67_4⟩:=cz5_ BK916.out;obtain ⟨Ao68,co68,eo68⟩:=Kd.R_slice HO912.out;subst eo68;have ⟨hcz69_0,hcz69_1,hcz69_2,hcz69_3,hcz69_4,hfz69_0,hfz69_1,hfz69_2,hfz69_3,hfz69_4⟩:=cz5_ BK896.out) | ((with_reducible refine gc_ 26 ?_);refine gl_ (some 53) Try.func26 #[.agg #[.slice Ao63 t907.length co63,.slice Ao68 t910.length co68,.int .i64 t913,.int .i64 t914,.int .i64 t915],.agg #[.slice Ao46 t887.length co46,.slice Ao49 t890.length co49,.int .i64 t893,.int .i64 t894,.int .i64 t895]] ?_;(with_reducible refine (laws_eqSetOut.calls k _ _ t907 _ _ t910 t913 t914 t915 _ _ t887 _ _ t890 t893 t894 t895 true _ ?s1 ?s2 ?s3 ?s4 ?s5 ?s6 ?s7 ?s8 A24.out).mono ?_);(case s1=>refine (Kd.R_reads' (e:=56) (base:=w.heap.size) (ok:=fun k_=>(((((True∧some k_≠(.slice Ao41 t878.length co41:Value).ownBlock)∧some k_≠(.slice Ao43 t884.length co43:Value).ownBlock)∧some k_≠(.slice Ao46 t887.length co46:Value).ownBlock)∧some k_≠(.slice Ao53 t897.length co53:Value).ownBlock)∧some k_≠(.slice Ao60 t904.length co60:Value).ownBlock)) (n:=t907.length) (c:=co63) ?_).2.2;exact (z12_ HO909.out BK916.out));(case s2=>exact (Kd.R_reads' HO909.out).2.1);(case s3=>refine (Kd.R_reads' (e:=91) (base:=w.heap.size) (ok:=fun k_=>(((True∧some k_≠(.slice Ao42 t881.length co42:Value).ownBlock)∧some k_≠(.slice Ao49 t890.length co49:Value).ownBlock)∧some k_≠(.slice Ao57 t900.length co57:Value).ownBlock)) (n:=t910.length) (c:=co68) ?_).2.2;exact (z12_ HO912.out BK916.out));(case s4=>exact (Kd.R_reads' HO912.out).2.1);(case s5=>refine (Kd.R_reads' (e:=56) (base:=w.heap.size) (ok:=fun k_=>(((((True∧some k_≠(.slice Ao41 t878.length co41:Value).ownBlock)∧some k_≠(.slice Ao43 t884.length co43:Value).ownBlock)∧some k_≠(.slice Ao53 t897.length co53:Value).ownBlock)∧some k_≠(.slice Ao60 t904.length co60:Value).ownBlock)∧some k_≠(.slice Ao63 t907.length co63:Value).ownBlock)) (n:=t887.length) (c:=co46) ?_).2.2;exact (z12_ HO889.out BK916.out));(case s6=>exact (Kd.R_reads' HO889.out).2.1);(case s7=>refine (Kd.R_reads' (e:=91) (base:=w.heap.size) (ok:=fun k_=>(((True∧some k_≠(.slice Ao42 t881.length co42:Value).ownBlock)∧some k_≠(.slice Ao57 t900.length co57:Value).ownBlock)∧some k_≠(.slice Ao68 t910.length co68:Value).ownBlock)) (n:=t890.length) (c:=co49) ?_).2.2;exact (z12_ HO892.out BK916.out));(case s8=>exact (Kd.R_reads' HO892.out).2.1);rintro e w70 ⟨rfl,hb⟩;refine ⟨_,rfl,?_⟩;refine as15_ (Kd.R_below (z12_ HO880.out BK916.out) hb) (Kd.R_below (z12_ HO883.out BK916.out) hb) (Kd.R_below (z12_ HO886.out BK916.out) hb) (Kd.R_below (z12_ HO889.out BK916.out) hb) (Kd.R_below (z12_ HO892.out BK916.out) hb) (Kd.R_below (z12_ HO899.out BK916.out) hb) (Kd.R_below (z12_ HO902.out BK916.out) hb) (Kd.R_below (z12_ HO906.out BK916.out) hb) (Kd.R_below (z12_ HO909.out BK916.out) hb) (Kd.R_below (z12_ HO912.out BK916.out) hb) (blk_below (g:=gb875) (o:=.cells #[.slice A0_0 l0_0.length c0_0,.slice A0_1 l0_1.length c0_1] 32 (0,0)) (z31_ NB875_916.out BK875.out) hb) (blk_below (g:=gb896) (o:=.cells #[.slice Ao46 t887.length co46,.slice Ao49 t890.length co49,.int .i64 t893,.int .i64 t894,.int .i64 t895] 58 (0,0)) (z31_ NB896_916.out BK896.out) hb) (blk_below (g:=gb903) (o:=.cells #[.slice Ao53 t897.length co53,.slice Ao57 t900.length co57] 40 (0,0)) (z31_ NB903_916.out BK903.out) hb) (blk_below (g:=gb916) (o:=.cells #[.slice Ao63 t907.length co63,.slice Ao68 t910.length co68,.int .i64 t913,.int .i64 t914,.int .i64 t915] 58 (0,0)) (z24_ BK916.out) hb) (below_step (z10_ HB.out GE875.out GE896.out GE903.out GE916.out) hb) ?_;clear HO880 HO883 HO886 HO889 HO892 HO899 HO902 HO906 HO909 HO912 BK875 BK896 BK903 BK916 HB;intro HO880 HO883 HO886 HO889 HO892 HO899 HO902 HO906 HO909 HO912 BK875 BK896 BK903 BK916 HB;(try clear hb);(try clear hb2);(try clear hk);(try clear hi)))
       refine as15_ (Kd.R_drew HO880.out) (Kd.R_drew HO883.out) (Kd.R_drew HO886.out) (Kd.R_drew HO889.out) (Kd.R_drew HO892.out) (Kd.R_drew HO899.out) (Kd.R_drew HO902.out) (Kd.R_drew HO906.out) (Kd.R_drew HO909.out) (Kd.R_drew HO912.out) (blk_drew BK875.out) (blk_drew BK896.out) (blk_drew BK903.out) (blk_drew BK916.out) (below_drew1 HB.out) ?_
       clear HO880 HO883 HO886 HO889 HO892 HO899 HO902 HO906 HO909 HO912 BK875 BK896 BK903 BK916 HB
       intro HO880 HO883 HO886 HO889 HO892 HO899 HO902 HO906 HO909 HO912 BK875 BK896 BK903 BK916 HB
       refine start_ (n:=5) (S:=fun w'=>w'.cell? ⟨gb903,0,none⟩=some (.slice Ao53 t897.length co53)∧w'.cell? ⟨gb903,1,none⟩=some (.slice Ao57 t900.length co57)∧w'.cell? ⟨gb875,0,none⟩=some (.slice A0_0 l0_0.length c0_0)∧w'.cell? ⟨gb875,1,none⟩=some (.slice A0_1 l0_1.length c0_1)) (ds:=[]) #[O,O,O,O,O] (by kernel_rfl) rfl rfl (cj2_ BK903.out (cc2_ BK875.out)) (fun hHeld=>?_)
       generalize w70.drew=w71 at HO880 HO883 HO886 HO889 HO892 HO899 HO902 HO906 HO909 HO912 BK875 BK896 BK903 BK916 HB hHeld ⊢
       refine take_ (i:=0) (N:=some 55) (v:=?_) (a':=?_) #[I,O,O,O,O] rfl rfl (by kernel_rfl) (fun _ _ _ h=>h) (Or.inl ⟨by rfl,?_⟩) hHeld ?_ ?_
       rotate_left
       ·rintro w' ⟨s0,s1,s2,s3⟩
        go_simp
        with_reducible rfl
       rotate_left
       ·simp only [Act.put,sa_,s0_,ss_,i64_w,i32_w]
        rfl
       refine take_ (i:=1) (N:=some 56) (v:=?_) (a':=?_) #[I,I,O,O,O] rfl rfl (by kernel_rfl) (fun _ _ _ h=>h) (Or.inl ⟨by rfl,?_⟩) hHeld ?_ ?_
       rotate_left
       ·rintro w' ⟨s0,s1,s2,s3⟩
        go_simp
        with_reducible rfl
       rotate_left
       ·simp only [Act.put,sa_,s0_,ss_,i64_w,i32_w]
        rfl
       refine one_ (i:=2) (N:=some 57) #[I,I,I,O,O] rfl rfl (by kernel_rfl) (by decide) (fun K hK=>?_)
       refine gs_ Try.func15 #[.agg #[.slice A0_0 l0_0.length c0_0,.slice A0_1 l0_1.length c0_1]] ?_
       with_reducible refine (laws_toSet.calls k _ _ l0_0 _ _ l0_1 t918 t921 _ ?s1 ?s2 ?s3 ?s4 A26.out).mono ?_
       (case s1=>repeat (first | exact (Kd.C_below HR0_0.out HB.out) | (with_reducible refine Kd.C_alloc ?_ _) | (with_reducible refine Kd.C_drewN ?_ _) | (with_reducible refine Kd.C_drew ?_)))
       (case s2=>exact HC0_0.out)
       (case s3=>repeat (first | exact (Kd.C_below HR0_1.out HB.out) | (with_reducible refine Kd.C_alloc ?_ _) | (with_reducible refine Kd.C_drewN ?_ _) | (with_reducible refine Kd.C_drew ?_)))
       (case s4=>exact HC0_1.out)
       rintro e w72 ⟨v919,v922,rfl,ho0,ho1,hb⟩
       refine ⟨_,rfl,?_⟩
       refine as17_ (Kd.R_elder' (z0_ HO880.out) (Kd.R_base ho0) hb) (Kd.R_elder' (z0_ HO883.out) (Kd.R_base ho1) hb) (Kd.R_elder' (z0_ HO886.out) (Kd.R_base ho0) hb) (Kd.R_elder' (z0_ HO889.out) (Kd.R_base ho0) hb) (Kd.R_elder' (z0_ HO892.out) (Kd.R_base ho1) hb) (Kd.R_elder' (z0_ HO899.out) (Kd.R_base ho0) hb) (Kd.R_elder' (z0_ HO902.out) (Kd.R_base ho1) hb) (Kd.R_elder' (z0_ HO906.out) (Kd.R_base ho0) hb) (Kd.R_elder' (z0_ HO909.out) (Kd.R_base ho0) hb) (Kd.R_elder' (z0_ HO912.out) (Kd.R_base ho1) hb) (Kd.R_lower (Kd.R_new' (Kd.R_new' (Kd.R_new' (Kd.R_new' (Kd.R_new' (Kd.R_new' ho0 (Kd.R_lt (z0_ HO880.out))) (Kd.R_lt (z0_ HO886.out))) (Kd.R_lt (z0_ HO889.out))) (Kd.R_lt (z0_ HO899.out))) (Kd.R_lt (z0_ HO906.out))) (Kd.R_lt (z0_ HO909.out))) (below_size (z10_ HB.out GE875.out GE896.out GE903.out GE916.out))) (Kd.R_lower (Kd.R_new' (Kd.R_new' (Kd.R_new' (Kd.R_new' ho1 (Kd.R_lt (z0_ HO883.out))) (Kd.R_lt (z0_ HO892.out))) (Kd.R_lt (z0_ HO902.out))) (Kd.R_lt (z0_ HO912.out))) (below_size (z10_ HB.out GE875.out GE896.out GE903.out GE916.out))) (blkB_ BK875.out hb) (blkB_ BK896.out hb) (blkB_ BK903.out hb) (blkB_ BK916.out hb) (below_step (z10_ HB.out GE875.out GE896.out GE903.out GE916.out) hb) ?_
       clear HO880 HO883 HO886 HO889 HO892 HO899 HO902 HO906 HO909 HO912 BK875 BK896 BK903 BK916 HB
       intro HO880 HO883 HO886 HO889 HO892 HO899 HO902 HO906 HO909 HO912 HO920 HO923 BK875 BK896 BK903 BK916 HB
       (try clear hb)
       (try clear hb2)
       (try clear hk)
       (try clear hi)
       (try clear ho0)
       (try clear ho1)
       obtain ⟨Ao73,co73,eo73⟩:=Kd.R_slice HO920.out
       (first | subst eo73 | (injection eo73 with f1_ f2_ f3_;have f4_:=f1_.symm;have f5_:=f3_.symm;clear f1_ f2_ f3_;subst f4_;subst f5_))
       obtain ⟨Ao74,co74,eo74⟩:=Kd.R_slice HO923.out
       (first | subst eo74 | (injection eo74 with f1_ f2_ f3_;have f4_:=f1_.symm;have f5_:=f3_.symm;clear f1_ f2_ f3_;subst f4_;subst f5_))
       refine hK.out _ _ (cj2_ BK903.out (cc2_ BK875.out)) (fun hHeld=>?_)
       clear hK K
       refine nm_ 57 ?_
       refine one_ (i:=3) (N:=some 58) #[I,I,I,I,O] rfl rfl (by kernel_rfl) (by decide) (fun K hK=>?_)
       refine gs_ Try.func19 #[.agg #[.slice Ao53 t897.length co53,.slice Ao57 t900.length co57],.agg #[.slice Ao73 t918.length co73,.slice Ao74 t921.length co74]] ?_
       with_reducible refine (laws_eqSet.calls k _ _ t897 _ _ t900 _ _ t918 _ _ t921 true _ ?s1 ?s2 ?s3 ?s4 ?s5 ?s6 ?s7 ?s8 A27.out).mono ?_
       (case s1=>repeat (first | exact (Kd.R_reads' HO899.out).2.2 | (with_reducible refine Kd.C_alloc ?_ _) | (with_reducible refine Kd.C_drewN ?_ _) | (with_reducible refine Kd.C_drew ?_)))
       (case s2=>exact (Kd.R_reads' HO899.out).2.1)
       (case s3=>repeat (first | exact (Kd.R_reads' HO902.out).2.2 | (with_reducible refine Kd.C_alloc ?_ _) | (with_reducible refine Kd.C_drewN ?_ _) | (with_reducible refine Kd.C_drew ?_)))
       (case s4=>exact (Kd.R_reads' HO902.out).2.1)
       (case s5=>repeat (first | exact (Kd.R_reads' HO920.out).2.2 | (with_reducible refine Kd.C_alloc ?_ _) | (with_reducible refine Kd.C_drewN ?_ _) | (with_reducible refine Kd.C_drew ?_)))
       (case s6=>exact (Kd.R_reads' HO920.out).2.1)
       (case s7=>repeat (first | exact (Kd.R_reads' HO923.out).2.2 | (with_reducible refine Kd.C_alloc ?_ _) | (with_reducible refine Kd.C_drewN ?_ _) | (with_reducible refine Kd.C_drew ?_)))
       (case s8=>exact (Kd.R_reads' HO923.out).2.1)
       rintro e w75 ⟨rfl,hb⟩
       refine ⟨_,rfl,?_⟩
       refine as17_ (Kd.R_below (z0_ HO880.out) hb) (Kd.R_below (z0_ HO883.out) hb) (Kd.R_below (z0_ HO886.out) hb) (Kd.R_below (z0_ HO889.out) hb) (Kd.R_below (z0_ HO892.out) hb) (Kd.R_below (z0_ HO899.out) hb) (Kd.R_below (z0_ HO902.out) hb) (Kd.R_below (z0_ HO906.out) hb) (Kd.R_below (z0_ HO909.out) hb) (Kd.R_below (z0_ HO912.out) hb) (Kd.R_below (z0_ HO920.out) hb) (Kd.R_below (z0_ HO923.out) hb) (blkB_ BK875.out hb) (blkB_ BK896.out hb) (blkB_ BK903.out hb) (blkB_ BK916.out hb) (below_step (z10_ HB.out GE875.out GE896.out GE903.out GE916.out) hb) ?_
       clear HO880 HO883 HO886 HO889 HO892 HO899 HO902 HO906 HO909 HO912 HO920 HO923 BK875 BK896 BK903 BK916 HB
       intro HO880 HO883 HO886 HO889 HO892 HO899 HO902 HO906 HO909 HO912 HO920 HO923 BK875 BK896 BK903 BK916 HB
       (try clear hb)
       refine hK.out _ _ (cj2_ BK903.out (cc2_ BK875.out)) (fun hHeld=>?_)
       clear hK K
       refine nm_ 58 ?_
       refine pure_ (i:=4) (N:=some 59) (v:=?_) (a':=?_) #[I,I,I,I,I] rfl rfl (by kernel_rfl) (fun _ _ _ h=>h) (Or.inl ⟨by rfl,?_⟩) ?_ ?_
       rotate_left
       ·intro w'
        go_simp
        with_reducible rfl
       rotate_left
       ·simp only [Act.put,sa_,s0_,ss_,i64_w,i32_w]
        rfl
       refine done_ (by kernel_rfl) ?_
       go_upto_region 23 with (first | ((with_reducible refine gc_ 31 ?_);refine gl_ (some 62) Try.func31 #[.slice A1 l1.length c1] ?_;(with_reducible refine (laws_toMarkS.calls k _ _ l1 t925 _ ?s1 ?s2 A29.out).mono ?_);(case s1=>repeat (first | exact (Kd.C_below HR1.out HB.out) | (with_reducible refine Kd.C_alloc ?_ _) | (with_reducible refine Kd.C_drewN ?_ _) | (with_reducible refine Kd.C_drew ?_)));(case s2=>exact HC1.out);rintro e w76 ⟨v926,rfl,ho0,hb⟩;refine ⟨_,rfl,?_⟩;refine as18_ (Kd.R_elder' (z0_ HO880.out) (Kd.R_base ho0) hb) (Kd.R_below (z0_ HO883.out) hb) (Kd.R_elder' (z0_ HO886.out) (Kd.R_base ho0) hb) (Kd.R_elder' (z0_ HO889.out) (Kd.R_base ho0) hb) (Kd.R_below (z0_ HO892.out) hb) (Kd.R_elder' (z0_ HO899.out) (Kd.R_base ho0) hb) (Kd.R_below (z0_ HO902.out) hb) (Kd.R_elder' (z0_ HO906.out) (Kd.R_base ho0) hb) (Kd.R_elder' (z0_ HO909.out) (Kd.R_base ho0) hb) (Kd.R_below (z0_ HO912.out) hb) (Kd.R_elder' (z0_ HO920.out) (Kd.R_base ho0) hb) (Kd.R_below (z0_ HO923.out) hb) (Kd.R_lower (Kd.R_new' (Kd.R_new' (Kd.R_new' (Kd.R_new' (Kd.R_new' (Kd.R_new' (Kd.R_new' ho0 (Kd.R_lt (z0_ HO880.out))) (Kd.R_lt (z0_ HO886.out))) (Kd.R_lt (z0_ HO889.out))) (Kd.R_lt (z0_ HO899.out))) (Kd.R_lt (z0_ HO906.out))) (Kd.R_lt (z0_ HO909.out))) (Kd.R_lt (z0_ HO920.out))) (below_size (z10_ HB.out GE875.out GE896.out GE903.out GE916.out))) (blkB_ BK875.out hb) (blkB_ BK896.out hb) (blkB_ BK903.out hb) (blkB_ BK916.out hb) (below_step (z10_ HB.out GE875.out GE896.out GE903.out GE916.out) hb) ?_;clear HO880 HO883 HO886 HO889 HO892 HO899 HO902 HO906 HO909 HO912 HO920 HO923 BK875 BK896 BK903 BK916 HB;intro HO880 HO883 HO886 HO889 HO892 HO899 HO902 HO906 HO909 HO912 HO920 HO923 HO927 BK875 BK896 BK903 BK916 HB;(try clear hb);(try clear ho0);obtain ⟨Ao77,co77,eo77⟩:=Kd.R_slice HO927.out;subst eo77) | ((with_reducible refine gc_ 33 ?_);refine gl_ (some 63) Try.func33 #[.slice Ao60 t904.length co60,.slice Ao77 t925.length co77] ?_;(with_reducible refine (laws_eqMarkS.calls k _ _ t904 _ _ t925 true _ ?s1 ?s2 ?s3 ?s4 A30.out).mono ?_);(case s1=>repeat (first | exact (Kd.R_reads' HO906.out).2.2 | (with_reducible refine Kd.C_alloc ?_ _) | (with_reducible refine Kd.C_drewN ?_ _) | (with_reducible refine Kd.C_drew ?_)));(case s2=>exact (Kd.R_reads' HO906.out).2.1);(case s3=>repeat (first | exact (Kd.R_reads' HO927.out).2.2 | (with_reducible refine Kd.C_alloc ?_ _) | (with_reducible refine Kd.C_drewN ?_ _) | (with_reducible refine Kd.C_drew ?_)));(case s4=>exact (Kd.R_reads' HO927.out).2.1);rintro e w78 ⟨rfl,hb⟩;refine ⟨_,rfl,?_⟩;refine as18_ (Kd.R_below (z0_ HO880.out) hb) (Kd.R_below (z0_ HO883.out) hb) (Kd.R_below (z0_ HO886.out) hb) (Kd.R_below (z0_ HO889.out) hb) (Kd.R_below (z0_ HO892.out) hb) (Kd.R_below (z0_ HO899.out) hb) (Kd.R_below (z0_ HO902.out) hb) (Kd.R_below (z0_ HO906.out) hb) (Kd.R_below (z0_ HO909.out) hb) (Kd.R_below (z0_ HO912.out) hb) (Kd.R_below (z0_ HO920.out) hb) (Kd.R_below (z0_ HO923.out) hb) (Kd.R_below (z0_ HO927.out) hb) (blkB_ BK875.out hb) (blkB_ BK896.out hb) (blkB_ BK903.out hb) (blkB_ BK916.out hb) (below_step (z10_ HB.out GE875.out GE896.out GE903.out GE916.out) hb) ?_;clear HO880 HO883 HO886 HO889 HO892 HO899 HO902 HO906 HO909 HO912 HO920 HO923 HO927 BK875 BK896 BK903 BK916 HB;intro HO880 HO883 HO886 HO889 HO892 HO899 HO902 HO906 HO909 HO912 HO920 HO923 HO927 BK875 BK896 BK903 BK916 HB;(try clear hb);have ⟨hcz79_0,hcz79_1,hfz79_0,hfz79_1⟩:=cz2_ BK903.out) | ((with_reducible refine gc_ 21 ?_);refine gl_ (some 67) Try.func21 #[.agg #[.slice Ao53 t897.length co53,.slice Ao57 t900.length co57],.int .i64 1] ?_;(with_reducible refine (laws_markSet.calls k (fun k_=>some k_=(.slice Ao53 t897.length co53:Value).ownBlock) (.slice Ao53 t897.length co53) t897 (fun k_=>some k_=(.slice Ao57 t900.length co57:Value).ownBlock) (.slice Ao57 t900.length co57) t900 1 t929 t930 t931 w _ ?s1 ?s2 ?s3 A32.out).mono ?_);(case s1=>repeat (first | (with_reducible first | exact HB.out | apply below_alloc | apply pw_below_drewN | apply below_drew1 | refine below_set ?_ GE875.out | refine below_set ?_ GE896.out | refine below_set ?_ GE903.out | refine below_set ?_ GE916.out) | exact HB.out));(case s2=>exact Kd.R_tight rfl HO899.out);(case s3=>exact Kd.R_tight rfl HO902.out);rintro e w80 ⟨rfl,hy0,hy1,hb,hkp⟩;refine ⟨_,rfl,?_⟩;refine as18_ (blk_kept (z5_ BK875.out) hkp (fun hs_=>Or.elim hs_ (fun e_=>(fun e_=>(Kd.R_ne HO899.out BK875.out (by decide)) e_) e_) (fun e_=>(fun e_=>(Kd.R_ne HO902.out BK875.out (by decide)) e_) e_))) (Kd.R_mono (ok':=fun k_=>some k_≠(.slice Ao43 t884.length co43:Value).ownBlock∧some k_≠(.slice Ao46 t887.length co46:Value).ownBlock∧some k_≠(.slice Ao53 t897.length co53:Value).ownBlock∧some k_≠(.slice Ao60 t904.length co60:Value).ownBlock∧some k_≠(.slice Ao63 t907.length co63:Value).ownBlock∧some k_≠(.slice Ao73 t918.length co73:Value).ownBlock∧some k_≠(.slice Ao77 t925.length co77:Value).ownBlock) (Kd.R_keptB ((Kd.R_apart' HO880.out (Kd.R_typed HO902.out) (by decide))) hkp (fun k_ hk_ hs_=>Or.elim hs_ (fun e_=>(hk_.1.1.1.1.1.2) e_) (fun e_=>(hk_.2) e_))) (fun k_ hk_=>⟨hk_.1.1.1.1.1.1.1.1.2,hk_.1.1.1.1.1.1.1.2,hk_.1.1.1.1.1.1.2,hk_.1.1.1.1.1.2,hk_.1.1.1.1.2,hk_.1.1.1.2,hk_.1.1.2⟩)) (Kd.R_mono (ok':=fun k_=>some k_≠(.slice Ao49 t890.length co49:Value).ownBlock∧some k_≠(.slice Ao57 t900.length co57:Value).ownBlock∧some k_≠(.slice Ao68 t910.length co68:Value).ownBlock∧some k_≠(.slice Ao74 t921.length co74:Value).ownBlock) (Kd.R_keptB ((Kd.R_apart' HO883.out (Kd.R_typed HO899.out) (by decide))) hkp (fun k_ hk_ hs_=>Or.elim hs_ (fun e_=>(hk_.2) e_) (fun e_=>(hk_.1.1.1.2) e_))) (fun k_ hk_=>⟨hk_.1.1.1.1.1.2,hk_.1.1.1.1.2,hk_.1.1.1.2,hk_.1.1.2⟩)) (Kd.R_mono (ok':=fun k_=>some k_≠(.slice Ao41 t878.length co41:Value).ownBlock∧some k_≠(.slice Ao46 t887.length co46:Value).ownBlock∧some k_≠(.slice Ao53 t897.length co53:Value).ownBlock∧some k_≠(.slice Ao60 t904.length co60:Value).ownBlock∧some k_≠(.slice Ao63 t907.length co63:Value).ownBlock∧some k_≠(.slice Ao73 t918.length co73:Value).ownBlock∧some k_≠(.slice Ao77 t925.length co77:Value).ownBlock) (Kd.R_keptB ((Kd.R_apart' HO886.out (Kd.R_typed HO902.out) (by decide))) hkp (fun k_ hk_ hs_=>Or.elim hs_ (fun e_=>(hk_.1.1.1.1.1.2) e_) (fun e_=>(hk_.2) e_))) (fun k_ hk_=>⟨hk_.1.1.1.1.1.1.1.1.2,hk_.1.1.1.1.1.1.1.2,hk_.1.1.1.1.1.1.2,hk_.1.1.1.1.1.2,hk_.1.1.1.1.2,hk_.1.1.1.2,hk_.1.1.2⟩)) (Kd.R_mono (ok':=fun k_=>some k_≠(.slice Ao41 t878.length co41:Value).ownBlock∧some k_≠(.slice Ao43 t884.length co43:Value).ownBlock∧some k_≠(.slice Ao53 t897.length co53:Value).ownBlock∧some k_≠(.slice Ao60 t904.length co60:Value).ownBlock∧some k_≠(.slice Ao63 t907.length co63:Value).ownBlock∧some k_≠(.slice Ao73 t918.length co73:Value).ownBlock∧some k_≠(.slice Ao77 t925.length co77:Value).ownBlock) (Kd.R_keptB ((Kd.R_apart' HO889.out (Kd.R_typed HO902.out) (by decide))) hkp (fun k_ hk_ hs_=>Or.elim hs_ (fun e_=>(hk_.1.1.1.1.1.2) e_) (fun e_=>(hk_.2) e_))) (fun k_ hk_=>⟨hk_.1.1.1.1.1.1.1.1.2,hk_.1.1.1.1.1.1.1.2,hk_.1.1.1.1.1.1.2,hk_.1.1.1.1.1.2,hk_.1.1.1.1.2,hk_.1.1.1.2,hk_.1.1.2⟩)) (Kd.R_mono (ok':=fun k_=>some k_≠(.slice Ao42 t881.length co42:Value).ownBlock∧some k_≠(.slice Ao57 t900.length co57:Value).ownBlock∧some k_≠(.slice Ao68 t910.length co68:Value).ownBlock∧some k_≠(.slice Ao74 t921.length co74:Value).ownBlock) (Kd.R_keptB ((Kd.R_apart' HO892.out (Kd.R_typed HO899.out) (by decide))) hkp (fun k_ hk_ hs_=>Or.elim hs_ (fun e_=>(hk_.2) e_) (fun e_=>(hk_.1.1.1.2) e_))) (fun k_ hk_=>⟨hk_.1.1.1.1.1.2,hk_.1.1.1.1.2,hk_.1.1.1.2,hk_.1.1.2⟩)) (blk_kept (z5_ BK896.out) hkp (fun hs_=>Or.elim hs_ (fun e_=>(fun e_=>(Kd.R_ne HO899.out BK896.out (by decide)) e_) e_) (fun e_=>(fun e_=>(Kd.R_ne HO902.out BK896.out (by decide)) e_) e_))) (Kd.R_reok rfl hy0 (fun k_ e_=>HO899.out.1 k_ e_)) (Kd.R_reok rfl hy1 (fun k_ e_=>HO902.out.1 k_ e_)) (blk_kept (z5_ BK903.out) hkp (fun hs_=>Or.elim hs_ (fun e_=>(fun e_=>(Kd.R_ne HO899.out BK903.out (by decide)) e_) e_) (fun e_=>(fun e_=>(Kd.R_ne HO902.out BK903.out (by decide)) e_) e_))) (Kd.R_mono (ok':=fun k_=>some k_≠(.slice Ao41 t878.length co41:Value).ownBlock∧some k_≠(.slice Ao43 t884.length co43:Value).ownBlock∧some k_≠(.slice Ao46 t887.length co46:Value).ownBlock∧some k_≠(.slice Ao53 t897.length co53:Value).ownBlock∧some k_≠(.slice Ao63 t907.length co63:Value).ownBlock∧some k_≠(.slice Ao73 t918.length co73:Value).ownBlock∧some k_≠(.slice Ao77 t925.length co77:Value).ownBlock) (Kd.R_keptB ((Kd.R_apart' HO906.out (Kd.R_typed HO902.out) (by decide))) hkp (fun k_ hk_ hs_=>Or.elim hs_ (fun e_=>(hk_.1.1.1.1.2) e_) (fun e_=>(hk_.2) e_))) (fun k_ hk_=>⟨hk_.1.1.1.1.1.1.1.1.2,hk_.1.1.1.1.1.1.1.2,hk_.1.1.1.1.1.1.2,hk_.1.1.1.1.1.2,hk_.1.1.1.1.2,hk_.1.1.1.2,hk_.1.1.2⟩)) (Kd.R_mono (ok':=fun k_=>some k_≠(.slice Ao41 t878.length co41:Value).ownBlock∧some k_≠(.slice Ao43 t884.length co43:Value).ownBlock∧some k_≠(.slice Ao46 t887.length co46:Value).ownBlock∧some k_≠(.slice Ao53 t897.length co53:Value).ownBlock∧some k_≠(.slice Ao60 t904.length co60:Value).ownBlock∧some k_≠(.slice Ao73 t918.length co73:Value).ownBlock∧some k_≠(.slice Ao77 t925.length co77:Value).ownBlock) (Kd.R_keptB ((Kd.R_apart' HO909.out (Kd.R_typed HO902.out) (by decide))) hkp (fun k_ hk_ hs_=>Or.elim hs_ (fun e_=>(hk_.1.1.1.1.2) e_) (fun e_=>(hk_.2) e_))) (fun k_ hk_=>⟨hk_.1.1.1.1.1.1.1.1.2,hk_.1.1.1.1.1.1.1.2,hk_.1.1.1.1.1.1.2,hk_.1.1.1.1.1.2,hk_.1.1.1.1.2,hk_.1.1.1.2,hk_.1.1.2⟩)) (Kd.R_mono (ok':=fun k_=>some k_≠(.slice Ao42 t881.length co42:Value).ownBlock∧some k_≠(.slice Ao49 t890.length co49:Value).ownBlock∧some k_≠(.slice Ao57 t900.length co57:Value).ownBlock∧some k_≠(.slice Ao74 t921.length co74:Value).ownBlock) (Kd.R_keptB ((Kd.R_apart' HO912.out (Kd.R_typed HO899.out) (by decide))) hkp (fun k_ hk_ hs_=>Or.elim hs_ (fun e_=>(hk_.2) e_) (fun e_=>(hk_.1.1.2) e_))) (fun k_ hk_=>⟨hk_.1.1.1.1.1.2,hk_.1.1.1.1.2,hk_.1.1.1.2,hk_.1.1.2⟩)) (blk_kept (z5_ BK916.out) hkp (fun hs_=>Or.elim hs_ (fun e_=>(fun e_=>(Kd.R_ne HO899.out BK916.out (by decide)) e_) e_) (fun e_=>(fun e_=>(Kd.R_ne HO902.out BK916.out (by decide)) e_) e_))) (Kd.R_mono (ok':=fun k_=>some k_≠(.slice Ao41 t878.length co41:Value).ownBlock∧some k_≠(.slice Ao43 t884.length co43:Value).ownBlock∧some k_≠(.slice Ao46 t887.length co46:Value).ownBlock∧some k_≠(.slice Ao53 t897.length co53:Value).ownBlock∧some k_≠(.slice Ao60 t904.length co60:Value).ownBlock∧some k_≠(.slice Ao63 t907.length co63:Value).ownBlock∧some k_≠(.slice Ao77 t925.length co77:Value).ownBlock) (Kd.R_keptB ((Kd.R_apart' HO920.out (Kd.R_typed HO902.out) (by decide))) hkp (fun k_ hk_ hs_=>Or.elim hs_ (fun e_=>(hk_.1.1.1.1.2) e_) (fun e_=>(hk_.2) e_))) (fun k_ hk_=>⟨hk_.1.1.1.1.1.1.1.1.2,hk_.1.1.1.1.1.1.1.2,hk_.1.1.1.1.1.1.2,hk_.1.1.1.1.1.2,hk_.1.1.1.1.2,hk_.1.1.1.2,hk_.1.1.2⟩)) (Kd.R_mono (ok':=fun k_=>some k_≠(.slice Ao42 t881.length co42:Value).ownBlock∧some k_≠(.slice Ao49 t890.length co49:Value).ownBlock∧some k_≠(.slice Ao57 t900.length co57:Value).ownBlock∧some k_≠(.slice Ao68 t910.length co68:Value).ownBlock) (Kd.R_keptB ((Kd.R_apart' HO923.out (Kd.R_typed HO899.out) (by decide))) hkp (fun k_ hk_ hs_=>Or.elim hs_ (fun e_=>(hk_.2) e_) (fun e_=>(hk_.1.1.2) e_))) (fun k_ hk_=>⟨hk_.1.1.1.1.1.2,hk_.1.1.1.1.2,hk_.1.1.1.2,hk_.1.1.2⟩)) (Kd.R_mono (ok':=fun k_=>some k_≠(.slice Ao41 t878.length co41:Value).ownBlock∧some k_≠(.slice Ao43 t884.length co43:Value).ownBlock∧some k_≠(.slice Ao46 t887.length co46:Value).ownBlock∧some k_≠(.slice Ao53 t897.length co53:Value).ownBlock∧some k_≠(.slice Ao60 t904.length co60:Value).ownBlock∧some k_≠(.slice Ao63 t907.length co63:Value).ownBlock∧some k_≠(.slice Ao73 t918.length co73:Value).ownBlock) (Kd.R_keptB ((Kd.R_apart' HO927.out (Kd.R_typed HO902.out) (by decide))) hkp (fun k_ hk_ hs_=>Or.elim hs_ (fun e_=>(hk_.1.1.1.1.2) e_) (fun e_=>(hk_.2) e_))) (fun k_ hk_=>⟨hk_.1.1.1.1.1.1.1.1.2,hk_.1.1.1.1.1.1.1.2,hk_.1.1.1.1.1.1.2,hk_.1.1.1.1.1.2,hk_.1.1.1.1.2,hk_.1.1.1.2,hk_.1.1.2⟩)) (hb) ?_;clear BK875 HO880 HO883 HO886 HO889 HO892 BK896 HO899 HO902 BK903 HO906 HO909 HO912 BK916 HO920 HO923 HO927 HB;intro BK875 HO880 HO883 HO886 HO889 HO892 BK896 HO899 HO902 BK903 HO906 HO909 HO912 BK916 HO920 HO923 HO927 HB;(try clear hb);(try clear hkp);(try clear hy0);(try clear hy1)) | ((with_reducible refine gc_ 34 ?_);refine gl_ (some 70) Try.func34 #[.slice Ao60 t904.length co60,.int .i64 t929] ?_;(with_reducible refine (laws_markMarkS.calls k (fun k_=>some k_=(.slice Ao60 t904.length co60:Value).ownBlock) (.slice Ao60 t904.length co60) t904 t929 t932 t933 w _ ?s1 ?s2 A33.out).mono ?_);(case s1=>repeat (first | (with_reducible first | exact HB.out | apply below_alloc | apply pw_below_drewN | apply below_drew1 | refine below_set ?_ GE875.out | refine below_set ?_ GE896.out | refine below_set ?_ GE903.out | refine below_set ?_ GE916.out) | exact HB.out));(case s2=>exact Kd.R_tight rfl HO906.out);rintro e w81 ⟨rfl,hy0,hb,hkp⟩;refine ⟨_,rfl,?_⟩;refine as18_ (blk_kept (z5_ BK875.out) hkp (fun hs_=>(fun e_=>(Kd.R_ne HO906.out BK875.out (by decide)) e_) hs_)) (Kd.R_mono (ok':=fun k_=>some k_≠(.slice Ao43 t884.length co43:Value).ownBlock∧some k_≠(.slice Ao46 t887.length co46:Value).ownBlock∧some k_≠(.slice Ao53 t897.length co53:Value).ownBlock∧some k_≠(.slice Ao60 t904.length co60:Value).ownBlock∧some k_≠(.slice Ao63 t907.length co63:Value).ownBlock∧some k_≠(.slice Ao73 t918.length co73:Value).ownBlock∧some k_≠(.slice Ao77 t925.length co77:Value).ownBlock) (Kd.R_keptB (HO880.out) hkp (fun k_ hk_ hs_=>(hk_.2.2.2.1) hs_)) (fun k_ hk_=>⟨hk_.1.1,hk_.1.2.1,hk_.1.2.2.1,hk_.1.2.2.2.1,hk_.1.2.2.2.2.1,hk_.1.2.2.2.2.2.1,hk_.1.2.2.2.2.2.2⟩)) (Kd.R_mono (ok':=fun k_=>some k_≠(.slice Ao49 t890.length co49:Value).ownBlock∧some k_≠(.slice Ao57 t900.length co57:Value).ownBlock∧some k_≠(.slice Ao68 t910.length co68:Value).ownBlock∧some k_≠(.slice Ao74 t921.length co74:Value).ownBlock) (Kd.R_keptB ((Kd.R_apart' HO883.out (Kd.R_typed HO906.out) (by decide))) hkp (fun k_ hk_ hs_=>(hk_.2) hs_)) (fun k_ hk_=>⟨hk_.1.1.1,hk_.1.1.2.1,hk_.1.1.2.2.1,hk_.1.1.2.2.2⟩)) (Kd.R_mono (ok':=fun k_=>some k_≠(.slice Ao41 t878.length co41:Value).ownBlock∧some k_≠(.slice Ao46 t887.length co46:Value).ownBlock∧some k_≠(.slice Ao53 t897.length co53:Value).ownBlock∧some k_≠(.slice Ao60 t904.length co60:Value).ownBlock∧some k_≠(.slice Ao63 t907.length co63:Value).ownBlock∧some k_≠(.slice Ao73 t918.length co73:Value).ownBlock∧some k_≠(.slice Ao77 t925.length co77:Value).ownBlock) (Kd.R_keptB (HO886.out) hkp (fun k_ hk_ hs_=>(hk_.2.2.2.1) hs_)) (fun k_ hk_=>⟨hk_.1.1,hk_.1.2.1,hk_.1.2.2.1,hk_.1.2.2.2.1,hk_.1.2.2.2.2.1,hk_.1.2.2.2.2.2.1,hk_.1.2.2.2.2.2.2⟩)) (Kd.R_mono (ok':=fun k_=>some k_≠(.slice Ao41 t878.length co41:Value).ownBlock∧some k_≠(.slice Ao43 t884.length co43:Value).ownBlock∧some k_≠(.slice Ao53 t897.length co53:Value).ownBlock∧some k_≠(.slice Ao60 t904.length co60:Value).ownBlock∧some k_≠(.slice Ao63 t907.length co63:Value).ownBlock∧some k_≠(.slice Ao73 t918.length co73:Value).ownBlock∧some k_≠(.slice Ao77 t925.length co77:Value).ownBlock) (Kd.R_keptB (HO889.out) hkp (fun k_ hk_ hs_=>(hk_.2.2.2.1) hs_)) (fun k_ hk_=>⟨hk_.1.1,hk_.1.2.1,hk_.1.2.2.1,hk_.1.2.2.2.1,hk_.1.2.2.2.2.1,hk_.1.2.2.2.2.2.1,hk_.1.2.2.2.2.2.2⟩)) (Kd.R_mono (ok':=fun k_=>some k_≠(.slice Ao42 t881.length co42:Value).ownBlock∧some k_≠(.slice Ao57 t900.length co57:Value).ownBlock∧some k_≠(.slice Ao68 t910.length co68:Value).ownBlock∧some k_≠(.slice Ao74 t921.length co74:Value).ownBlock) (Kd.R_keptB ((Kd.R_apart' HO892.out (Kd.R_typed HO906.out) (by decide))) hkp (fun k_ hk_ hs_=>(hk_.2) hs_)) (fun k_ hk_=>⟨hk_.1.1.1,hk_.1.1.2.1,hk_.1.1.2.2.1,hk_.1.1.2.2.2⟩)) (blk_kept (z5_ BK896.out) hkp (fun hs_=>(fun e_=>(Kd.R_ne HO906.out BK896.out (by decide)) e_) hs_)) (Kd.R_mono (ok':=fun k_=>some k_≠(.slice Ao41 t878.length co41:Value).ownBlock∧some k_≠(.slice Ao43 t884.length co43:Value).ownBlock∧some k_≠(.slice Ao46 t887.length co46:Value).ownBlock∧some k_≠(.slice Ao60 t904.length co60:Value).ownBlock∧some k_≠(.slice Ao63 t907.length co63:Value).ownBlock∧some k_≠(.slice Ao73 t918.length co73:Value).ownBlock∧some k_≠(.slice Ao77 t925.length co77:Value).ownBlock) (Kd.R_keptB (HO899.out) hkp (fun k_ hk_ hs_=>(hk_.1.1.1.2) hs_)) (fun k_ hk_=>⟨hk_.1.1.1.1.1.1.1.2,hk_.1.1.1.1.1.1.2,hk_.1.1.1.1.1.2,hk_.1.1.1.1.2,hk_.1.1.1.2,hk_.1.1.2,hk_.1.2⟩)) (Kd.R_mono (ok':=fun k_=>some k_≠(.slice Ao42 t881.length co42:Value).ownBlock∧some k_≠(.slice Ao49 t890.length co49:Value).ownBlock∧some k_≠(.slice Ao68 t910.length co68:Value).ownBlock∧some k_≠(.slice Ao74 t921.length co74:Value).ownBlock) (Kd.R_keptB ((Kd.R_apart' HO902.out (Kd.R_typed HO906.out) (by decide))) hkp (fun k_ hk_ hs_=>(hk_.2) hs_)) (fun k_ hk_=>⟨hk_.1.1.1.1.1.2,hk_.1.1.1.1.2,hk_.1.1.1.2,hk_.1.1.2⟩)) (blk_kept (z5_ BK903.out) hkp (fun hs_=>(fun e_=>(Kd.R_ne HO906.out BK903.out (by decide)) e_) hs_)) (Kd.R_reok rfl hy0 (fun k_ e_=>HO906.out.1 k_ e_)) (Kd.R_mono (ok':=fun k_=>some k_≠(.slice Ao41 t878.length co41:Value).ownBlock∧some k_≠(.slice Ao43 t884.length co43:Value).ownBlock∧some k_≠(.slice Ao46 t887.length co46:Value).ownBlock∧some k_≠(.slice Ao53 t897.length co53:Value).ownBlock∧some k_≠(.slice Ao60 t904.length co60:Value).ownBlock∧some k_≠(.slice Ao73 t918.length co73:Value).ownBlock∧some k_≠(.slice Ao77 t925.length co77:Value).ownBlock) (Kd.R_keptB (HO909.out) hkp (fun k_ hk_ hs_=>(hk_.2.2.2.2.1) hs_)) (fun k_ hk_=>⟨hk_.1.1,hk_.1.2.1,hk_.1.2.2.1,hk_.1.2.2.2.1,hk_.1.2.2.2.2.1,hk_.1.2.2.2.2.2.1,hk_.1.2.2.2.2.2.2⟩)) (Kd.R_mono (ok':=fun k_=>some k_≠(.slice Ao42 t881.length co42:Value).ownBlock∧some k_≠(.slice Ao49 t890.length co49:Value).ownBlock∧some k_≠(.slice Ao57 t900.length co57:Value).ownBlock∧some k_≠(.slice Ao74 t921.length co74:Value).ownBlock) (Kd.R_keptB ((Kd.R_apart' HO912.out (Kd.R_typed HO906.out) (by decide))) hkp (fun k_ hk_ hs_=>(hk_.2) hs_)) (fun k_ hk_=>⟨hk_.1.1.1,hk_.1.1.2.1,hk_.1.1.2.2.1,hk_.1.1.2.2.2⟩)) (blk_kept (z5_ BK916.out) hkp (fun hs_=>(fun e_=>(Kd.R_ne HO906.out BK916.out (by decide)) e_) hs_)) (Kd.R_mono (ok':=fun k_=>some k_≠(.slice Ao41 t878.length co41:Value).ownBlock∧some k_≠(.slice Ao43 t884.length co43:Value).ownBlock∧some k_≠(.slice Ao46 t887.length co46:Value).ownBlock∧some k_≠(.slice Ao53 t897.length co53:Value).ownBlock∧some k_≠(.slice Ao60 t904.length co60:Value).ownBlock∧some k_≠(.slice Ao63 t907.length co63:Value).ownBlock∧some k_≠(.slice Ao77 t925.length co77:Value).ownBlock) (Kd.R_keptB (HO920.out) hkp (fun k_ hk_ hs_=>(hk_.2.2.2.2.1) hs_)) (fun k_ hk_=>⟨hk_.1.1,hk_.1.2.1,hk_.1.2.2.1,hk_.1.2.2.2.1,hk_.1.2.2.2.2.1,hk_.1.2.2.2.2.2.1,hk_.1.2.2.2.2.2.2⟩)) (Kd.R_mono (ok':=fun k_=>some k_≠(.slice Ao42 t881.length co42:Value).ownBlock∧some k_≠(.slice Ao49 t890.length co49:Value).ownBlock∧some k_≠(.slice Ao57 t900.length co57:Value).ownBlock∧some k_≠(.slice Ao68 t910.length co68:Value).ownBlock) (Kd.R_keptB ((Kd.R_apart' HO923.out (Kd.R_typed HO906.out) (by decide))) hkp (fun k_ hk_ hs_=>(hk_.2) hs_)) (fun k_ hk_=>⟨hk_.1.1.1,hk_.1.1.2.1,hk_.1.1.2.2.1,hk_.1.1.2.2.2⟩)) (Kd.R_mono (ok':=fun k_=>some k_≠(.slice Ao41 t878.length co41:Value).ownBlock∧some k_≠(.slice Ao43 t884.length co43:Value).ownBlock∧some k_≠(.slice Ao46 t887.length co46:Value).ownBlock∧some k_≠(.slice Ao53 t897.length co53:Value).ownBlock∧some k_≠(.slice Ao60 t904.length co60:Value).ownBlock∧some k_≠(.slice Ao63 t907.length co63:Value).ownBlock∧some k_≠(.slice Ao73 t918.length co73:Value).ownBlock) (Kd.R_keptB (HO927.out) hkp (fun k_ hk_ hs_=>(hk_.2.2.2.2.1) hs_)) (fun k_ hk_=>⟨hk_.1.1,hk_.1.2.1,hk_.1.2.2.1,hk_.1.2.2.2.1,hk_.1.2.2.2.2.1,hk_.1.2.2.2.2.2.1,hk_.1.2.2.2.2.2.2⟩)) (hb) ?_;clear BK875 HO880 HO883 HO886 HO889 HO892 BK896 HO899 HO902 BK903 HO906 HO909 HO912 BK916 HO920 HO923 HO927 HB;intro BK875 HO880 HO883 HO886 HO889 HO892 BK896 HO899 HO902 BK903 HO906 HO909 HO912 BK916 HO920 HO923 HO927 HB;(try clear hb);(try clear hkp);(try clear hy0)))
       (try simp only [Act.put,sa_,s0_,ss_])
       go_cut [78] (fun v78 wc=>∃ (kq:Nat) (x78_33:Bool),v78 = .bool x78_33∧Aside0 (laws_FnExactSetPut.j0 kq l1 a2 a3 a4 x78_33 l0_0 l0_1 t887 t890 t893 t894 t895 t907 t910 t913 t914 t915=some r)∧Aside0 (kq≤k)∧Aside0 (Kd.R k56 56 wc w.heap.size (fun k_=>some k_≠((.slice Ao53 t897.length co53):Value).ownBlock∧some k_≠((.slice Ao63 t907.length co63):Value).ownBlock) (.slice Ao46 t887.length co46) t887)∧Aside0 (Kd.R k91 91 wc w.heap.size (fun k_=>some k_≠((.slice Ao57 t900.length co57):Value).ownBlock∧some k_≠((.slice Ao68 t910.length co68):Value).ownBlock) (.slice Ao49 t890.length co49) t890)∧Aside0 (Kd.R k56 56 wc w.heap.size (fun k_=>some k_≠((.slice Ao46 t887.length co46):Value).ownBlock∧some k_≠((.slice Ao63 t907.length co63):Value).ownBlock) (.slice Ao53 t897.length co53) t930)∧Aside0 (Kd.R k91 91 wc w.heap.size (fun k_=>some k_≠((.slice Ao49 t890.length co49):Value).ownBlock∧some k_≠((.slice Ao68 t910.length co68):Value).ownBlock) (.slice Ao57 t900.length co57) t931)∧Aside0 (Kd.R k56 56 wc w.heap.size (fun k_=>some k_≠((.slice Ao46 t887.length co46):Value).ownBlock∧some k_≠((.slice Ao53 t897.length co53):Value).ownBlock) (.slice Ao63 t907.length co63) t907)∧Aside0 (Kd.R k91 91 wc w.heap.size (fun k_=>some k_≠((.slice Ao49 t890.length co49):Value).ownBlock∧some k_≠((.slice Ao57 t900.length co57):Value).ownBlock) (.slice Ao68 t910.length co68) t910)∧Aside0 (wc.heap[gb875]? = some (.cells #[(.slice A0_0 l0_0.length c0_0),(.slice A0_1 l0_1.length c0_1)] 32 (0,0)))∧Aside0 (wc.heap[gb896]? = some (.cells #[(.slice Ao46 t887.length co46),(.slice Ao49 t890.length co49),.int .i64 t893,.int .i64 t894,.int .i64 t895] 58 (0,0)))∧Aside0 (wc.heap[gb903]? = some (.cells #[(.slice Ao53 t897.length co53),(.slice Ao57 t900.length co57)] 40 (0,0)))∧Aside0 (wc.heap[gb916]? = some (.cells #[(.slice Ao63 t907.length co63),(.slice Ao68 t910.length co68),.int .i64 t913,.int .i64 t914,.int .i64 t915] 58 (0,0)))∧Aside0 (Below w.heap.size w wc))
       case first =>
        have H:=HC34.out
        clear HC34
        by_cases c82:t932<0
        ·rw [if_pos c82] at H
         have c82b0:decide (t932<0)=true:=decide_eq_true c82
         clear c82
         (first | rw [c82b0] | (simp only [i64_w,i32_w];rw [c82b0]) | skip)
         have H':=Aside0.mk H
         clear H
         go_wp2
         go_meet
         case rel=>exact ⟨_,(true),(z2_),H',⟨by first | omega | exact Nat.le_refl _⟩,⟨z39_ HO889.out⟩,⟨z35_ HO892.out⟩,⟨z39_ HO899.out⟩,⟨z35_ HO902.out⟩,⟨by (with_reducible repeat (first | apply Kd.R_alloc | apply Kd.R_drewN | apply Kd.R_drew));exact Kd.R_mono HO909.out (fun _ hk=>⟨hk.2.2.1,hk.2.2.2.1⟩)⟩,⟨z35_ HO912.out⟩,⟨z5_ BK875.out⟩,⟨z5_ BK896.out⟩,⟨z5_ BK903.out⟩,⟨z5_ BK916.out⟩,⟨z10_ HB.out GE875.out GE896.out GE903.out GE916.out⟩⟩
        ·rw [if_neg c82] at H
         have c82b0:decide (t932<0)=false:=decide_eq_false c82
         clear c82
         (first | rw [c82b0] | (simp only [i64_w,i32_w];rw [c82b0]) | skip)
         replace H:=Option.bind_eq_some_iff.mp H
         obtain ⟨t934,A830,H⟩:=H
         replace H:(laws_FnExactSetPut.j0 k l1 a2 a3 a4 (!t934) l0_0 l0_1 t887 t890 t893 t894 t895 t907 t910 t913 t914 t915)=some r:=H
         have A83:=Aside0.mk A830
         clear A830
         have H':=Aside0.mk H
         clear H
         have hnb84:=NB916_875.out
         have hnc84:=NB875_916.out
         have hnb85:=NB916_896.out
         have hnc85:=NB896_916.out
         have hnb86:=NB916_903.out
         have hnc86:=NB903_916.out
         have ⟨hcz87_0,hcz87_1,hcz87_2,hcz87_3,hcz87_4,hfz87_0,hfz87_1,hfz87_2,hfz87_3,hfz87_4⟩:=cz5_ BK916.out
         have hnb88:=NB896_875.out
         have hnc88:=NB875_896.out
         have hnb89:=NB896_903.out
         have hnc89:=NB903_896.out
         have ⟨hcz90_0,hcz90_1,hcz90_2,hcz90_3,hcz90_4,hfz90_0,hfz90_1,hfz90_2,hfz90_3,hfz90_4⟩:=cz5_ BK896.out
         go_wp2_with (first | (go_at_call 26;(with_reducible refine (laws_eqSetOut.calls k _ _ t907 _ _ t910 t913 t914 t915 _ _ t887 _ _ t890 t893 t894 t895 t934 _ ?s1 ?s2 ?s3 ?s4 ?s5 ?s6 ?s7 ?s8 A83.out).mono ?_);(case s1=>repeat (first | exact (Kd.R_reads' HO909.out).2.2 | (with_reducible refine Kd.C_alloc ?_ _) | (with_reducible refine Kd.C_drewN ?_ _) | (with_reducible refine Kd.C_drew ?_)));(case s2=>exact (Kd.R_reads' HO909.out).2.1);(case s3=>repeat (first | exact (Kd.R_reads' HO912.out).2.2 | (with_reducible refine Kd.C_alloc ?_ _) | (with_reducible refine Kd.C_drewN ?_ _) | (with_reducible refine Kd.C_drew ?_)));(case s4=>exact (Kd.R_reads' HO912.out).2.1);(case s5=>repeat (first | exact (Kd.R_reads' HO889.out).2.2 | (with_reducible refine Kd.C_alloc ?_ _) | (with_reducible refine Kd.C_drewN ?_ _) | (with_reducible refine Kd.C_drew ?_)));(case s6=>exact (Kd.R_reads' HO889.out).2.1);(case s7=>repeat (first | exact (Kd.R_reads' HO892.out).2.2 | (with_reducible refine Kd.C_alloc ?_ _) | (with_reducible refine Kd.C_drewN ?_ _) | (with_reducible refine Kd.C_drew ?_)));(case s8=>exact (Kd.R_reads' HO892.out).2.1);rintro e w91 ⟨rfl,hb⟩;refine as18_ (Kd.R_below (z0_ HO880.out) hb) (Kd.R_below (z0_ HO883.out) hb) (Kd.R_below (z0_ HO886.out) hb) (Kd.R_below (z0_ HO889.out) hb) (Kd.R_below (z0_ HO892.out) hb) (Kd.R_below (z0_ HO899.out) hb) (Kd.R_below (z0_ HO902.out) hb) (Kd.R_below (z0_ HO906.out) hb) (Kd.R_below (z0_ HO909.out) hb) (Kd.R_below (z0_ HO912.out) hb) (Kd.R_below (z0_ HO920.out) hb) (Kd.R_below (z0_ HO923.out) hb) (Kd.R_below (z0_ HO927.out) hb) (blkB_ BK875.out hb) (blkB_ BK896.out hb) (blkB_ BK903.out hb) (blkB_ BK916.out hb) (below_step (z10_ HB.out GE875.out GE896.out GE903.out GE916.out) hb) ?_;clear HO880 HO883 HO886 HO889 HO892 HO899 HO902 HO906 HO909 HO912 HO920 HO923 HO927 BK875 BK896 BK903 BK916 HB;intro HO880 HO883 HO886 HO889 HO892 HO899 HO902 HO906 HO909 HO912 HO920 HO923 HO927 BK875 BK896 BK903 BK916 HB;(try clear hb)))
         go_meet
         case rel=>exact ⟨_,(!t934),(z2_),H',⟨by first | omega | exact Nat.le_refl _⟩,⟨z39_ HO889.out⟩,⟨z35_ HO892.out⟩,⟨z39_ HO899.out⟩,⟨z35_ HO902.out⟩,⟨by (with_reducible repeat (first | apply Kd.R_alloc | apply Kd.R_drewN | apply Kd.R_drew));exact Kd.R_mono HO909.out (fun _ hk=>⟨hk.2.2.1,hk.2.2.2.1⟩)⟩,⟨z35_ HO912.out⟩,⟨z5_ BK875.out⟩,⟨z5_ BK896.out⟩,⟨z5_ BK903.out⟩,⟨z5_ BK916.out⟩,⟨z10_ HB.out GE875.out GE896.out GE903.out GE916.out⟩⟩
       case rest =>
        clear HC34
        try clear c1
        try clear c2
        try clear p2
        try clear c3
        try clear c4
        try clear c5
        try clear c6
        try clear c6b0
        try clear c6b1
        try clear c8
        try clear c9
        try clear c9b0
        try clear c12
        try clear c14
        try clear c14b0
        try clear c15
        try clear c19
        try clear c21
        try clear c25
        try clear c26
        try clear c28
        try clear c29
        try clear c30
        try clear c31
        try clear c32
        try clear c33
        try clear c34
        try clear c47
        try clear c54
        try clear c55
        try clear c64
        try clear c65
        try clear c66
        try clear c82
        try clear c82b0
        try clear c84
        try clear c85
        try clear c86
        try clear c88
        try clear c89
        try clear hcz11_0
        try clear hcz11_1
        try clear hcz16_0
        try clear hcz16_1
        try clear hcz36_0
        try clear hcz36_1
        try clear hcz38_0
        try clear hcz38_1
        try clear hcz48_0
        try clear hcz48_1
        try clear hcz48_2
        try clear hcz48_3
        try clear hcz48_4
        try clear hcz50_0
        try clear hcz50_1
        try clear hcz56_0
        try clear hcz56_1
        try clear hcz59_0
        try clear hcz59_1
        try clear hcz67_0
        try clear hcz67_1
        try clear hcz67_2
        try clear hcz67_3
        try clear hcz67_4
        try clear hcz69_0
        try clear hcz69_1
        try clear hcz69_2
        try clear hcz69_3
        try clear hcz69_4
        try clear hcz79_0
        try clear hcz79_1
        try clear hcz87_0
        try clear hcz87_1
        try clear hcz87_2
        try clear hcz87_3
        try clear hcz87_4
        try clear hcz90_0
        try clear hcz90_1
        try clear hcz90_2
        try clear hcz90_3
        try clear hcz90_4
        try clear hfz11_0
        try clear hfz11_1
        try clear hfz16_0
        try clear hfz16_1
        try clear hfz36_0
        try clear hfz36_1
        try clear hfz38_0
        try clear hfz38_1
        try clear hfz48_0
        try clear hfz48_1
        try clear hfz48_2
        try clear hfz48_3
        try clear hfz48_4
        try clear hfz50_0
        try clear hfz50_1
        try clear hfz56_0
        try clear hfz56_1
        try clear hfz59_0
        try clear hfz59_1
        try clear hfz67_0
        try clear hfz67_1
        try clear hfz67_2
        try clear hfz67_3
        try clear hfz67_4
        try clear hfz69_0
        try clear hfz69_1
        try clear hfz69_2
        try clear hfz69_3
        try clear hfz69_4
        try clear hfz79_0
        try clear hfz79_1
        try clear hfz87_0
        try clear hfz87_1
        try clear hfz87_2
        try clear hfz87_3
        try clear hfz87_4
        try clear hfz90_0
        try clear hfz90_1
        try clear hfz90_2
        try clear hfz90_3
        try clear hfz90_4
        obtain ⟨kq,x78_33,rfl,HA,HJ33,HO_897000,HO_897001,HO_904000,HO_904001,HO_917000,HO_917001,BK875,BK896,BK903,BK916,HB⟩:=hcut
        have hl904000_33:=(Kd.R_reads' HO_904000.out).1
        rw [hl904000_33] at HO_904000
        (try simp only [hl904000_33])
        (try simp only [hl904000_33] at BK875)
        (try simp only [hl904000_33] at BK896)
        (try simp only [hl904000_33] at BK903)
        (try simp only [hl904000_33] at BK916)
        (try simp only [hl904000_33] at HO_897000)
        (try simp only [hl904000_33] at HO_897001)
        (try simp only [hl904000_33] at HO_904001)
        (try simp only [hl904000_33] at HO_917000)
        (try simp only [hl904000_33] at HO_917001)
        have hl904001_33:=(Kd.R_reads' HO_904001.out).1
        rw [hl904001_33] at HO_904001
        (try simp only [hl904001_33])
        (try simp only [hl904001_33] at BK875)
        (try simp only [hl904001_33] at BK896)
        (try simp only [hl904001_33] at BK903)
        (try simp only [hl904001_33] at BK916)
        (try simp only [hl904001_33] at HO_897000)
        (try simp only [hl904001_33] at HO_897001)
        (try simp only [hl904001_33] at HO_904000)
        (try simp only [hl904001_33] at HO_917000)
        (try simp only [hl904001_33] at HO_917001)
        cases kq with
        | zero=>exact absurd HA.out (by simp [laws_FnExactSetPut.j0])
        | succ kj33 =>
         have H:=HA.out
         clear HA
         simp only [laws_FnExactSetPut.j0] at H
         by_cases c92:x78_33=true
         ·subst c92
          have H1:(none)=some r:=by rw [if_pos rfl] at H;exact H
          clear H
          have H:=H1
          clear H1
          exact absurd H (by simp)
         ·replace c92:=Bool.eq_false_iff.mpr c92
          subst c92
          have H1:((laws_markSetOut.f kj33 t907 t910 t913 t914 t915 1).bind fun bt935=>((laws_heldSetOut.f kj33 bt935.2.1 bt935.2.2 t913 t914 t915 1).bind fun t938=>(if t938<0 then (none) else (if t938=bt935.1 then ((laws_toSet.f kj33 l0_0 l0_1).bind fun bt939=>((laws_toMarkS.f kj33 l1).bind fun t945=>((impl_SetPut.f kj33 bt939.1 bt939.2 t945 a2 a3 a4).bind fun bt948=>((laws_eqSetOut.f kj33 bt948.1 bt948.2.1 bt948.2.2.1 bt948.2.2.2.1 bt948.2.2.2.2 t887 t890 t893 t894 t895).bind fun t958=>(if t958=true then ((laws_heldSetOut.f kj33 bt935.2.1 bt935.2.2 t913 t914 t915 1).bind fun t959=>(if t959<0 then (none) else (if t959=bt935.1 then (some true) else (none)))) else (none)))))) else (none)))))=some r:=by rw [if_neg (show ¬ (false=true) by decide)] at H;exact H
          clear H
          have H:=H1
          clear H1
          replace H:=Option.bind_eq_some_iff.mp H
          obtain ⟨⟨t935,t936,t937⟩,A930,H⟩:=H
          replace H:((laws_heldSetOut.f kj33 t936 t937 t913 t914 t915 1).bind fun t938=>(if t938<0 then (none) else (if t938=t935 then ((laws_toSet.f kj33 l0_0 l0_1).bind fun bt939=>((laws_toMarkS.f kj33 l1).bind fun t945=>((impl_SetPut.f kj33 bt939.1 bt939.2 t945 a2 a3 a4).bind fun bt948=>((laws_eqSetOut.f kj33 bt948.1 bt948.2.1 bt948.2.2.1 bt948.2.2.2.1 bt948.2.2.2.2 t887 t890 t893 t894 t895).bind fun t958=>(if t958=true then ((laws_heldSetOut.f kj33 t936 t937 t913 t914 t915 1).bind fun t959=>(if t959<0 then (none) else (if t959=t935 then (some true) else (none)))) else (none)))))) else (none))))=some r:=H
          have A93:=Aside0.mk A930
          clear A930
          replace H:=Option.bind_eq_some_iff.mp H
          obtain ⟨t938,A940,H⟩:=H
          replace H:(if t938<0 then (none) else (if t938=t935 then ((laws_toSet.f kj33 l0_0 l0_1).bind fun bt939=>((laws_toMarkS.f kj33 l1).bind fun t945=>((impl_SetPut.f kj33 bt939.1 bt939.2 t945 a2 a3 a4).bind fun bt948=>((laws_eqSetOut.f kj33 bt948.1 bt948.2.1 bt948.2.2.1 bt948.2.2.2.1 bt948.2.2.2.2 t887 t890 t893 t894 t895).bind fun t958=>(if t958=true then ((laws_heldSetOut.f kj33 t936 t937 t913 t914 t915 1).bind fun t959=>(if t959<0 then (none) else (if t959=t935 then (some true) else (none)))) else (none)))))) else (none)))=some r:=H
          have A94:=Aside0.mk A940
          clear A940
          by_cases c95:t938<0
          ·rw [if_pos c95] at H
           exact absurd H (by simp)
          ·rw [if_neg c95] at H
           have c95b0:decide (t938<0)=false:=decide_eq_false c95
           clear c95
           by_cases c96:t938=t935
           ·rw [if_pos c96] at H
            have c96b0:(t938 == t935)=true:=beq_iff_eq.mpr c96
            have c96b1:(t938 != t935)=false:=bne_eq_false_iff_eq.mpr c96
            clear c96
            replace H:=Option.bind_eq_some_iff.mp H
            obtain ⟨⟨t939,t942⟩,A970,H⟩:=H
            replace H:((laws_toMarkS.f kj33 l1).bind fun t945=>((impl_SetPut.f kj33 t939 t942 t945 a2 a3 a4).bind fun bt948=>((laws_eqSetOut.f kj33 bt948.1 bt948.2.1 bt948.2.2.1 bt948.2.2.2.1 bt948.2.2.2.2 t887 t890 t893 t894 t895).bind fun t958=>(if t958=true then ((laws_heldSetOut.f kj33 t936 t937 t913 t914 t915 1).bind fun t959=>(if t959<0 then (none) else (if t959=t935 then (some true) else (none)))) else (none)))))=some r:=H
            have A97:=Aside0.mk A970
            clear A970
            replace H:=Option.bind_eq_some_iff.mp H
            obtain ⟨t945,A980,H⟩:=H
            replace H:((impl_SetPut.f kj33 t939 t942 t945 a2 a3 a4).bind fun bt948=>((laws_eqSetOut.f kj33 bt948.1 bt948.2.1 bt948.2.2.1 bt948.2.2.2.1 bt948.2.2.2.2 t887 t890 t893 t894 t895).bind fun t958=>(if t958=true then ((laws_heldSetOut.f kj33 t936 t937 t913 t914 t915 1).bind fun t959=>(if t959<0 then (none) else (if t959=t935 then (some true) else (none)))) else (none))))=some r:=H
            have A98:=Aside0.mk A980
            clear A980
            replace H:=Option.bind_eq_some_iff.mp H
            obtain ⟨⟨t948,t951,t954,t955,t956⟩,A990,H⟩:=H
            replace H:((laws_eqSetOut.f kj33 t948 t951 t954 t955 t956 t887 t890 t893 t894 t895).bind fun t958=>(if t958=true then ((laws_heldSetOut.f kj33 t936 t937 t913 t914 t915 1).bind fun t959=>(if t959<0 then (none) else (if t959=t935 then (some true) else (none)))) else (none)))=some r:=H
            have A99:=Aside0.mk A990
            clear A990
            replace H:=Option.bind_eq_some_iff.mp H
            obtain ⟨t958,A1000,H⟩:=H
            replace H:(if t958=true then ((laws_heldSetOut.f kj33 t936 t937 t913 t914 t915 1).bind fun t959=>(if t959<0 then (none) else (if t959=t935 then (some true) else (none)))) else (none))=some r:=H
            have A100:=Aside0.mk A1000
            clear A1000
            by_cases c101:t958=true
            ·subst c101
             have H1:((laws_heldSetOut.f kj33 t936 t937 t913 t914 t915 1).bind fun t959=>(if t959<0 then (none) else (if t959=t935 then (some true) else (none))))=some r:=by rw [if_pos rfl] at H;exact H
             clear H
             have H:=H1
             clear H1
             replace H:=Option.bind_eq_some_iff.mp H
             obtain ⟨t959,A1020,H⟩:=H
             replace H:(if t959<0 then (none) else (if t959=t935 then (some true) else (none)))=some r:=H
             have A102:=Aside0.mk A1020
             clear A1020
             by_cases c103:t959<0
             ·rw [if_pos c103] at H
              exact absurd H (by simp)
             ·rw [if_neg c103] at H
              have c103b0:decide (t959<0)=false:=decide_eq_false c103
              clear c103
              by_cases c104:t959=t935
              ·rw [if_pos c104] at H
               have c104b0:(t959 == t935)=true:=beq_iff_eq.mpr c104
               have c104b1:(t959 != t935)=false:=bne_eq_false_iff_eq.mpr c104
               clear c104
               obtain rfl:=Option.some.inj H
               have hnb105:=NB916_875.out
               have hnc105:=NB875_916.out
               have hnb106:=NB916_896.out
               have hnc106:=NB896_916.out
               have hnb107:=NB916_903.out
               have hnc107:=NB903_916.out
               have ⟨hcz108_0,hcz108_1,hcz108_2,hcz108_3,hcz108_4,hfz108_0,hfz108_1,hfz108_2,hfz108_3,hfz108_4⟩:=cz5_ BK916.out
               go_wp2_with (first | ((with_reducible refine gc_ 27 ?_);refine gl_ (some 81) Try.func27 #[.agg #[.slice Ao63 t907.length co63,.slice Ao68 t910.length co68,.int .i64 t913,.int .i64 t914,.int .i64 t915],.int .i64 1] ?_;(with_reducible refine (laws_markSetOut.calls kj33 (fun k_=>some k_=(.slice Ao63 t907.length co63:Value).ownBlock) (.slice Ao63 t907.length co63) t907 (fun k_=>some k_=(.slice Ao68 t910.length co68:Value).ownBlock) (.slice Ao68 t910.length co68) t910 t913 t914 t915 1 t935 t936 t937 w _ ?s1 ?s2 ?s3 A93.out).mono ?_);(case s1=>repeat (first | (with_reducible first | exact HB.out | apply below_alloc | apply pw_below_drewN | apply below_drew1 | refine below_set ?_ GE875.out | refine below_set ?_ GE896.out | refine below_set ?_ GE903.out | refine below_set ?_ GE916.out) | exact HB.out));(case s2=>exact Kd.R_tight rfl HO_917000.out);(case s3=>exact Kd.R_tight rfl HO_917001.out);rintro e w109 ⟨rfl,hy0,hy1,hb,hkp⟩;refine ⟨_,rfl,?_⟩;refine as11_ (Kd.R_mono (ok':=fun k_=>some k_≠(.slice Ao53 t930.length co53:Value).ownBlock∧some k_≠(.slice Ao63 t907.length co63:Value).ownBlock) (Kd.R_keptB ((Kd.R_apart' HO_897000.out (Kd.R_typed HO_917001.out) (by decide))) hkp (fun k_ hk_ hs_=>Or.elim hs_ (fun e_=>(hk_.1.2) e_) (fun e_=>(hk_.2) e_))) (fun k_ hk_=>⟨hk_.1.1.1,hk_.1.1.2⟩)) (Kd.R_mono (ok':=fun k_=>some k_≠(.slice Ao57 t931.length co57:Value).ownBlock∧some k_≠(.slice Ao68 t910.length co68:Value).ownBlock) (Kd.R_keptB ((Kd.R_apart' HO_897001.out (Kd.R_typed HO_917000.out) (by decide))) hkp (fun k_ hk_ hs_=>Or.elim hs_ (fun e_=>(hk_.2) e_) (fun e_=>(hk_.1.2) e_))) (fun k_ hk_=>⟨hk_.1.1.1,hk_.1.1.2⟩)) (Kd.R_mono (ok':=fun k_=>some k_≠(.slice Ao46 t887.length co46:Value).ownBlock∧some k_≠(.slice Ao63 t907.length co63:Value).ownBlock) (Kd.R_keptB ((Kd.R_apart' HO_904000.out (Kd.R_typed HO_917001.out) (by decide))) hkp (fun k_ hk_ hs_=>Or.elim hs_ (fun e_=>(hk_.1.2) e_) (fun e_=>(hk_.2) e_))) (fun k_ hk_=>⟨hk_.1.1.1,hk_.1.1.2⟩)) (Kd.R_mono (ok':=fun k_=>some k_≠(.slice Ao49 t890.length co49:Value).ownBlock∧some k_≠(.slice Ao68 t910.length co68:Value).ownBlock) (Kd.R_keptB ((Kd.R_apart' HO_904001.out (Kd.R_typed HO_917000.out) (by decide))) hkp (fun k_ hk_ hs_=>Or.elim hs_ (fun e_=>(hk_.2) e_) (fun e_=>(hk_.1.2) e_))) (fun k_ hk_=>⟨hk_.1.1.1,hk_.1.1.2⟩)) (Kd.R_reok rfl hy0 (fun k_ e_=>HO_917000.out.1 k_ e_)) (Kd.R_reok rfl hy1 (fun k_ e_=>HO_917001.out.1 k_ e_)) (blk_kept (z5_ BK875.out) hkp (fun hs_=>Or.elim hs_ (fun e_=>(fun e_=>(Kd.R_ne HO_917000.out BK875.out (by decide)) e_) e_) (fun e_=>(fun e_=>(Kd.R_ne HO_917001.out BK875.out (by decide)) e_) e_))) (blk_kept (z5_ BK896.out) hkp (fun hs_=>Or.elim hs_ (fun e_=>(fun e_=>(Kd.R_ne HO_917000.out BK896.out (by decide)) e_) e_) (fun e_=>(fun e_=>(Kd.R_ne HO_917001.out BK896.out (by decide)) e_) e_))) (blk_kept (z5_ BK903.out) hkp (fun hs_=>Or.elim hs_ (fun e_=>(fun e_=>(Kd.R_ne HO_917000.out BK903.out (by decide)) e_) e_) (fun e_=>(fun e_=>(Kd.R_ne HO_917001.out BK903.out (by decide)) e_) e_))) (blk_kept (z5_ BK916.out) hkp (fun hs_=>Or.elim hs_ (fun e_=>(fun e_=>(Kd.R_ne HO_917000.out BK916.out (by decide)) e_) e_) (fun e_=>(fun e_=>(Kd.R_ne HO_917001.out BK916.out (by decide)) e_) e_))) (hb) ?_;clear HO_897000 HO_897001 HO_904000 HO_904001 HO_917000 HO_917001 BK875 BK896 BK903 BK916 HB;intro HO_897000 HO_897001 HO_904000 HO_904001 HO_917000 HO_917001 BK875 BK896 BK903 BK916 HB;(try clear hb);(try clear hkp);(try clear hy0);(try clear hy1);have ⟨hcz110_0,hcz110_1,hcz110_2,hcz110_3,hcz110_4,hfz110_0,hfz110_1,hfz110_2,hfz110_3,hfz110_4⟩:=cz5_ BK916.out) | ((with_reducible refine gc_ 28 ?_);refine goesL_ (some 84) rfl rfl Try.func28 (by kernel_rfl) rfl #[.agg #[.slice Ao63 t936.length co63,.slice Ao68 t937.length co68,.int .i64 t913,.int .i64 t914,.int .i64 t915],.int .i64 1] rfl (by (try simp only [List.map_toArray,List.map_cons,List.map_nil]);first | done | (rw [show t936.length=t907.length from (Kd.R_reads' HO_917000.out).1.symm,show t937.length=t910.length from (Kd.R_reads' HO_917001.out).1.symm] <;> rfl) | rfl | (simp only [List.length_drop,List.length_take];rfl)) ?_;(with_reducible refine (laws_heldSetOut.calls kj33 _ _ t936 _ _ t937 t913 t914 t915 1 t938 _ ?s1 ?s2 ?s3 ?s4 A94.out).mono ?_);(case s1=>repeat (first | exact (Kd.R_reads' HO_917000.out).2.2 | (with_reducible refine Kd.C_alloc ?_ _) | (with_reducible refine Kd.C_drewN ?_ _) | (with_reducible refine Kd.C_drew ?_)));(case s2=>rw [show t936.length=t907.length from (Kd.R_reads' HO_917000.out).1.symm];exact (Kd.R_reads' HO_917000.out).2.1);(case s3=>repeat (first | exact (Kd.R_reads' HO_917001.out).2.2 | (with_reducible refine Kd.C_alloc ?_ _) | (with_reducible refine Kd.C_drewN ?_ _) | (with_reducible refine Kd.C_drew ?_)));(case s4=>rw [show t937.length=t910.length from (Kd.R_reads' HO_917001.out).1.symm];exact (Kd.R_reads' HO_917001.out).2.1);rintro e w111 ⟨rfl,hb⟩;refine ⟨_,rfl,?_⟩;refine as11_ (Kd.R_below (z0_ HO_897000.out) hb) (Kd.R_below (z0_ HO_897001.out) hb) (Kd.R_below (z0_ HO_904000.out) hb) (Kd.R_below (z0_ HO_904001.out) hb) (Kd.R_below (z0_ HO_917000.out) hb) (Kd.R_below (z0_ HO_917001.out) hb) (blkB_ BK875.out hb) (blkB_ BK896.out hb) (blkB_ BK903.out hb) (blkB_ BK916.out hb) (below_step (z10_ HB.out GE875.out GE896.out GE903.out GE916.out) hb) ?_;clear HO_897000 HO_897001 HO_904000 HO_904001 HO_917000 HO_917001 BK875 BK896 BK903 BK916 HB;intro HO_897000 HO_897001 HO_904000 HO_904001 HO_917000 HO_917001 BK875 BK896 BK903 BK916 HB;(try clear hb);have hnb112:=NB875_896.out;have hnc112:=NB896_875.out;have hnb113:=NB875_903.out;have hnc113:=NB903_875.out;have ⟨hcz114_0,hcz114_1,hfz114_0,hfz114_1⟩:=cz2_ BK875.out) | ((with_reducible refine gc_ 15 ?_);refine gl_ (some 91) Try.func15 #[.agg #[.slice A0_0 l0_0.length c0_0,.slice A0_1 l0_1.length c0_1]] ?_;(with_reducible refine (laws_toSet.calls kj33 _ _ l0_0 _ _ l0_1 t939 t942 _ ?s1 ?s2 ?s3 ?s4 A97.out).mono ?_);(case s1=>repeat (first | exact (Kd.C_below HR0_0.out HB.out) | (with_reducible refine Kd.C_alloc ?_ _) | (with_reducible refine Kd.C_drewN ?_ _) | (with_reducible refine Kd.C_drew ?_)));(case s2=>exact HC0_0.out);(case s3=>repeat (first | exact (Kd.C_below HR0_1.out HB.out) | (with_reducible refine Kd.C_alloc ?_ _) | (with_reducible refine Kd.C_drewN ?_ _) | (with_reducible refine Kd.C_drew ?_)));(case s4=>exact HC0_1.out);rintro e w115 ⟨v940,v943,rfl,ho0,ho1,hb⟩;refine ⟨_,rfl,?_⟩;refine as13_ (Kd.R_elder' (z0_ HO_897000.out) (Kd.R_base ho0) hb) (Kd.R_elder' (z0_ HO_897001.out) (Kd.R_base ho1) hb) (Kd.R_elder' (z0_ HO_904000.out) (Kd.R_base ho0) hb) (Kd.R_elder' (z0_ HO_904001.out) (Kd.R_base ho1) hb) (Kd.R_elder' (z0_ HO_917000.out) (Kd.R_base ho0) hb) (Kd.R_elder' (z0_ HO_917001.out) (Kd.R_base ho1) hb) (Kd.R_lower (Kd.R_new' (Kd.R_new' (Kd.R_new' ho0 (Kd.R_lt (z0_ HO_897000.out))) (Kd.R_lt (z0_ HO_904000.out))) (Kd.R_lt (z0_ HO_917000.out))) (below_size (z10_ HB.out GE875.out GE896.out GE903.out GE916.out))) (Kd.R_lower (Kd.R_new' (Kd.R_new' (Kd.R_new' ho1 (Kd.R_lt (z0_ HO_897001.out))) (Kd.R_lt (z0_ HO_904001.out))) (Kd.R_lt (z0_ HO_917001.out))) (below_size (z10_ HB.out GE875.out GE896.out GE903.out GE916.out))) (blkB_ BK875.out hb) (blkB_ BK896.out hb) (blkB_ BK903.out hb) (blkB_ BK916.out hb) (below_step (z10_ HB.out GE875.out GE896.out GE903.out GE916.out) hb) ?_;clear HO_897000 HO_897001 HO_904000 HO_904001 HO_917000 HO_917001 BK875 BK896 BK903 BK916 HB;intro HO_897000 HO_897001 HO_904000 HO_904001 HO_917000 HO_917001 HO941 HO944 BK875 BK896 BK903 BK916 HB;(try clear hb);(try clear ho0);(try clear ho1)) | ((with_reducible refine gc_ 31 ?_);refine gl_ (some 93) Try.func31 #[.slice A1 l1.length c1] ?_;(with_reducible refine (laws_toMarkS.calls kj33 _ _ l1 t945 _ ?s1 ?s2 A98.out).mono ?_);(case s1=>repeat (first | exact (Kd.C_below HR1.out HB.out) | (with_reducible refine Kd.C_alloc ?_ _) | (with_reducible refine Kd.C_drewN ?_ _) | (with_reducible refine Kd.C_drew ?_)));(case s2=>exact HC1.out);rintro e w116 ⟨v946,rfl,ho0,hb⟩;refine ⟨_,rfl,?_⟩;refine as14_ (Kd.R_elder' (z0_ HO_897000.out) (Kd.R_base ho0) hb) (Kd.R_below (z0_ HO_897001.out) hb) (Kd.R_elder' (z0_ HO_904000.out) (Kd.R_base ho0) hb) (Kd.R_below (z0_ HO_904001.out) hb) (Kd.R_elder' (z0_ HO_917000.out) (Kd.R_base ho0) hb) (Kd.R_below (z0_ HO_917001.out) hb) (Kd.R_elder' (z0_ HO941.out) (Kd.R_base ho0) hb) (Kd.R_below (z0_ HO944.out) hb) (Kd.R_lower (Kd.R_new' (Kd.R_new' (Kd.R_new' (Kd.R_new' ho0 (Kd.R_lt (z0_ HO_897000.out))) (Kd.R_lt (z0_ HO_904000.out))) (Kd.R_lt (z0_ HO_917000.out))) (Kd.R_lt (z0_ HO941.out))) (below_size (z10_ HB.out GE875.out GE896.out GE903.out GE916.out))) (blkB_ BK875.out hb) (blkB_ BK896.out hb) (blkB_ BK903.out hb) (blkB_ BK916.out hb) (below_step (z10_ HB.out GE875.out GE896.out GE903.out GE916.out) hb) ?_;clear HO_897000 HO_897001 HO_904000 HO_904001 HO_917000 HO_917001 HO941 HO944 BK875 BK896 BK903 BK916 HB;intro HO_897000 HO_897001 HO_904000 HO_904001 HO_917000 HO_917001 HO941 HO944 HO947 BK875 BK896 BK903 BK916 HB;(try clear hb);(try clear ho0);obtain ⟨Ao117,co117,eo117⟩:=Kd.R_slice HO941.out;subst eo117;obtain ⟨Ao118,co118,eo118⟩:=Kd.R_slice HO944.out;subst eo118;obtain ⟨Ao119,co119,eo119⟩:=Kd.R_slice HO947.out;subst eo119) | ((with_reducible refine gc_ 32 ?_);refine gl_ (some 97) Try.func32 #[.agg #[.slice Ao117 t939.length co117,.slice Ao118 t942.length co118],.slice Ao119 t945.length co119,.int .i64 a2,.string a3,.bool a4] ?_;(with_reducible refine (impl_SetPut.calls kj33 _ _ t939 _ _ t942 _ _ t945 a2 a3 a4 t948 t951 t954 t955 t956 _ ?s1 ?s2 ?s3 ?s4 ?s5 ?s6 A99.out).mono ?_);(case s1=>repeat (first | exact (Kd.R_reads' HO941.out).2.2 | (with_reducible refine Kd.C_alloc ?_ _) | (with_reducible refine Kd.C_drewN ?_ _) | (with_reducible refine Kd.C_drew ?_)));(case s2=>exact (Kd.R_reads' HO941.out).2.1);(case s3=>repeat (first | exact (Kd.R_reads' HO944.out).2.2 | (with_reducible refine Kd.C_alloc ?_ _) | (with_reducible refine Kd.C_drewN ?_ _) | (with_reducible refine Kd.C_drew ?_)));(case s4=>exact (Kd.R_reads' HO944.out).2.1);(case s5=>repeat (first | exact (Kd.R_reads' HO947.out).2.2 | (with_reducible refine Kd.C_alloc ?_ _) | (with_reducible refine Kd.C_drewN ?_ _) | (with_reducible refine Kd.C_drew ?_)));(case s6=>exact (Kd.R_reads' HO947.out).2.1);rintro e w120 ⟨v949,v952,rfl,ho0,ho1,hb⟩;refine ⟨_,rfl,?_⟩;refine as16_ (Kd.R_elder' (z0_ HO_897000.out) (Kd.R_base ho0) hb) (Kd.R_elder' (z0_ HO_897001.out) (Kd.R_base ho1) hb) (Kd.R_elder' (z0_ HO_904000.out) (Kd.R_base ho0) hb) (Kd.R_elder' (z0_ HO_904001.out) (Kd.R_base ho1) hb) (Kd.R_elder' (z0_ HO_917000.out) (Kd.R_base ho0) hb) (Kd.R_elder' (z0_ HO_917001.out) (Kd.R_base ho1) hb) (Kd.R_elder' (z0_ HO941.out) (Kd.R_base ho0) hb) (Kd.R_elder' (z0_ HO944.out) (Kd.R_base ho1) hb) (Kd.R_elder' (z0_ HO947.out) (Kd.R_base ho0) hb) (Kd.R_lower (Kd.R_new' (Kd.R_new' (Kd.R_new' (Kd.R_new' (Kd.R_new' ho0 (Kd.R_lt (z0_ HO_897000.out))) (Kd.R_lt (z0_ HO_904000.out))) (Kd.R_lt (z0_ HO_917000.out))) (Kd.R_lt (z0_ HO941.out))) (Kd.R_lt (z0_ HO947.out))) (below_size (z10_ HB.out GE875.out GE896.out GE903.out GE916.out))) (Kd.R_lower (Kd.R_new' (Kd.R_new' (Kd.R_new' (Kd.R_new' ho1 (Kd.R_lt (z0_ HO_897001.out))) (Kd.R_lt (z0_ HO_904001.out))) (Kd.R_lt (z0_ HO_917001.out))) (Kd.R_lt (z0_ HO944.out))) (below_size (z10_ HB.out GE875.out GE896.out GE903.out GE916.out))) (blkB_ BK875.out hb) (blkB_ BK896.out hb) (blkB_ BK903.out hb) (blkB_ BK916.out hb) (below_step (z10_ HB.out GE875.out GE896.out GE903.out GE916.out) hb) ?_;clear HO_897000 HO_897001 HO_904000 HO_904001 HO_917000 HO_917001 HO941 HO944 HO947 BK875 BK896 BK903 BK916 HB;intro HO_897000 HO_897001 HO_904000 HO_904001 HO_917000 HO_917001 HO941 HO944 HO947 HO950 HO953 BK875 BK896 BK903 BK916 HB;(try clear hb);(try clear ho0);(try clear ho1)) | ((with_reducible refine gd_ 19 ?_);refine be_ 19 #[.slice none 0 0,.slice none 0 0,.int .i64 0,.int .i64 0,.int .i64 0] 58 ?_;intro gb957 hg w121 hbox hb;refine as27_ (Kd.R_below (z0_ HO_897000.out) hb) (Kd.R_below (z0_ HO_897001.out) hb) (Kd.R_below (z0_ HO_904000.out) hb) (Kd.R_below (z0_ HO_904001.out) hb) (Kd.R_below (z0_ HO_917000.out) hb) (Kd.R_below (z0_ HO_917001.out) hb) (Kd.R_below (z0_ HO941.out) hb) (Kd.R_below (z0_ HO944.out) hb) (Kd.R_below (z0_ HO947.out) hb) (Kd.R_below (z0_ HO950.out) hb) (Kd.R_below (z0_ HO953.out) hb) (blkB_ BK875.out hb) (blkB_ BK896.out hb) (blkB_ BK903.out hb) (blkB_ BK916.out hb) (below_step (z10_ HB.out GE875.out GE896.out GE903.out GE916.out) hb) (hbox) ((z34_ HB.out GE875.out GE896.out GE903.out GE916.out:w.heap.size≤gb957)) ((z34_ HB.out GE875.out GE896.out GE903.out GE916.out:w.heap.size≤gb957)) (neL_ BK875.out hg) (neG_ BK875.out hg) (neL_ BK896.out hg) (neG_ BK896.out hg) (neL_ BK903.out hg) (neG_ BK903.out hg) (neL_ BK916.out hg) (neG_ BK916.out hg) ?_;clear HO_897000 HO_897001 HO_904000 HO_904001 HO_917000 HO_917001 HO941 HO944 HO947 HO950 HO953 BK875 BK896 BK903 BK916 HB;intro HO_897000 HO_897001 HO_904000 HO_904001 HO_917000 HO_917001 HO941 HO944 HO947 HO950 HO953 BK875 BK896 BK903 BK916 HB BK957 GW957 GE957 NB875_957 NB957_875 NB896_957 NB957_896 NB903_957 NB957_903 NB916_957 NB957_916;clear hb hbox hg;obtain ⟨Ao122,co122,eo122⟩:=Kd.R_slice HO950.out;subst eo122;have hnb123:=NB957_875.out;have hnc123:=NB875_957.out;have hnb124:=NB957_896.out;have hnc124:=NB896_957.out;have hnb125:=NB957_903.out;have hnc125:=NB903_957.out;have hnb126:=NB957_916.out;have hnc126:=NB916_957.out;have ⟨hcz127_0,hcz127_1,hcz127_2,hcz127_3,hcz127_4,hfz127_0,hfz127_1,hfz127_2,hfz127_3,hfz127_4⟩:=cz5_ BK957.out;obtain ⟨Ao128,co128,eo128⟩:=Kd.R_slice HO953.out;subst eo128;have hnb129:=NB896_903.out;have hnc129:=NB903_896.out;have ⟨hcz130_0,hcz130_1,hcz130_2,hcz130_3,hcz130_4,hfz130_0,hfz130_1,hfz130_2,hfz130_3,hfz130_4⟩:=cz5_ BK896.out) | ((with_reducible refine gc_ 26 ?_);refine gl_ (some 100) Try.func26 #[.agg #[.slice Ao122 t948.length co122,.slice Ao128 t951.length co128,.int .i64 t954,.int .i64 t955,.int .i64 t956],.agg #[.slice Ao46 t887.length co46,.slice Ao49 t890.length co49,.int .i64 t893,.int .i64 t894,.int .i64 t895]] ?_;(with_reducible refine (laws_eqSetOut.calls kj33 _ _ t948 _ _ t951 t954 t955 t956 _ _ t887 _ _ t890 t893 t894 t895 true _ ?s1 ?s2 ?s3 ?s4 ?s5 ?s6 ?s7 ?s8 A100.out).mono ?_);(case s1=>refine (Kd.R_reads' (e:=56) (base:=w.heap.size) (ok:=fun k_=>(((((True∧some k_≠(.slice Ao46 t887.length co46:Value).ownBlock)∧some k_≠(.slice Ao53 t930.length co53:Value).ownBlock)∧some k_≠(.slice Ao63 t907.length co63:Value).ownBlock)∧some k_≠(.slice Ao117 t939.length co117:Value).ownBlock)∧some k_≠(.slice Ao119 t945.length co119:Value).ownBlock)) (n:=t948.length) (c:=co122) ?_).2.2;exact (z12_ HO950.out BK957.out));(case s2=>exact (Kd.R_reads' HO950.out).2.1);(case s3=>refine (Kd.R_reads' (e:=91) (base:=w.heap.size) (ok:=fun k_=>((((True∧some k_≠(.slice Ao49 t890.length co49:Value).ownBlock)∧some k_≠(.slice Ao57 t931.length co57:Value).ownBlock)∧some k_≠(.slice Ao68 t910.length co68:Value).ownBlock)∧some k_≠(.slice Ao118 t942.length co118:Value).ownBlock)) (n:=t951.length) (c:=co128) ?_).2.2;exact (z12_ HO953.out BK957.out));(case s4=>exact (Kd.R_reads' HO953.out).2.1);(case s5=>refine (Kd.R_reads' (e:=56) (base:=w.heap.size) (ok:=fun k_=>((((some k_≠(.slice Ao53 t930.length co53:Value).ownBlock∧some k_≠(.slice Ao63 t907.length co63:Value).ownBlock)∧some k_≠(.slice Ao117 t939.length co117:Value).ownBlock)∧some k_≠(.slice Ao119 t945.length co119:Value).ownBlock)∧some k_≠(.slice Ao122 t948.length co122:Value).ownBlock)) (n:=t887.length) (c:=co46) ?_).2.2;exact (z12_ HO_897000.out BK957.out));(case s6=>exact (Kd.R_reads' HO_897000.out).2.1);(case s7=>refine (Kd.R_reads' (e:=91) (base:=w.heap.size) (ok:=fun k_=>(((some k_≠(.slice Ao57 t931.length co57:Value).ownBlock∧some k_≠(.slice Ao68 t910.length co68:Value).ownBlock)∧some k_≠(.slice Ao118 t942.length co118:Value).ownBlock)∧some k_≠(.slice Ao128 t951.length co128:Value).ownBlock)) (n:=t890.length) (c:=co49) ?_).2.2;exact (z12_ HO_897001.out BK957.out));(case s8=>exact (Kd.R_reads' HO_897001.out).2.1);rintro e w131 ⟨rfl,hb⟩;refine ⟨_,rfl,?_⟩;refine as17_ (Kd.R_below (z12_ HO_897000.out BK957.out) hb) (Kd.R_below (z12_ HO_897001.out BK957.out) hb) (Kd.R_below (z12_ HO_904000.out BK957.out) hb) (Kd.R_below (z12_ HO_904001.out BK957.out) hb) (Kd.R_below (z12_ HO_917000.out BK957.out) hb) (Kd.R_below (z12_ HO_917001.out BK957.out) hb) (Kd.R_below (z12_ HO941.out BK957.out) hb) (Kd.R_below (z12_ HO944.out BK957.out) hb) (Kd.R_below (z12_ HO947.out BK957.out) hb) (Kd.R_below (z12_ HO950.out BK957.out) hb) (Kd.R_below (z12_ HO953.out BK957.out) hb) (blk_below (g:=gb875) (o:=.cells #[.slice A0_0 l0_0.length c0_0,.slice A0_1 l0_1.length c0_1] 32 (0,0)) (z31_ NB875_957.out BK875.out) hb) (blk_below (g:=gb896) (o:=.cells #[.slice Ao46 t887.length co46,.slice Ao49 t890.length co49,.int .i64 t893,.int .i64 t894,.int .i64 t895] 58 (0,0)) (z31_ NB896_957.out BK896.out) hb) (blk_below (g:=gb903) (o:=.cells #[.slice Ao53 t930.length co53,.slice Ao57 t931.length co57] 40 (0,0)) (z31_ NB903_957.out BK903.out) hb) (blk_below (g:=gb916) (o:=.cells #[.slice Ao63 t907.length co63,.slice Ao68 t910.length co68,.int .i64 t913,.int .i64 t914,.int .i64 t915] 58 (0,0)) (z31_ NB916_957.out BK916.out) hb) (blk_below (g:=gb957) (o:=.cells #[.slice Ao122 t948.length co122,.slice Ao128 t951.length co128,.int .i64 t954,.int .i64 t955,.int .i64 t956] 58 (0,0)) (z24_ BK957.out) hb) (below_step (z25_ HB.out GE875.out GE896.out GE903.out GE916.out GE957.out) hb) ?_;clear HO_897000 HO_897001 HO_904000 HO_904001 HO_917000 HO_917001 HO941 HO944 HO947 HO950 HO953 BK875 BK896 BK903 BK916 BK957 HB;intro HO_897000 HO_897001 HO_904000 HO_904001 HO_917000 HO_917001 HO941 HO944 HO947 HO950 HO953 BK875 BK896 BK903 BK916 BK957 HB;(try clear hb);(try clear hb2);(try clear hk);(try clear hi);have ⟨hcz132_0,hcz132_1,hcz132_2,hcz132_3,hcz132_4,hfz132_0,hfz132_1,hfz132_2,hfz132_3,hfz132_4⟩:=cz5_ BK916.out) | ((with_reducible refine gc_ 28 ?_);refine goesL_ (some 104) rfl rfl Try.func28 (by kernel_rfl) rfl #[.agg #[.slice Ao63 t936.length co63,.slice Ao68 t937.length co68,.int .i64 t913,.int .i64 t914,.int .i64 t915],.int .i64 1] rfl (by (try simp only [List.map_toArray,List.map_cons,List.map_nil]);first | done | (rw [show t936.length=t907.length from (Kd.R_reads' HO_917000.out).1.symm,show t937.length=t910.length from (Kd.R_reads' HO_917001.out).1.symm] <;> rfl) | rfl | (simp only [List.length_drop,List.length_take];rfl)) ?_;(with_reducible refine (laws_heldSetOut.calls kj33 _ _ t936 _ _ t937 t913 t914 t915 1 t959 _ ?s1 ?s2 ?s3 ?s4 A102.out).mono ?_);(case s1=>repeat (first | exact (Kd.R_reads' HO_917000.out).2.2 | (with_reducible refine Kd.C_alloc ?_ _) | (with_reducible refine Kd.C_drewN ?_ _) | (with_reducible refine Kd.C_drew ?_)));(case s2=>rw [show t936.length=t907.length from (Kd.R_reads' HO_917000.out).1.symm];exact (Kd.R_reads' HO_917000.out).2.1);(case s3=>repeat (first | exact (Kd.R_reads' HO_917001.out).2.2 | (with_reducible refine Kd.C_alloc ?_ _) | (with_reducible refine Kd.C_drewN ?_ _) | (with_reducible refine Kd.C_drew ?_)));(case s4=>rw [show t937.length=t910.length from (Kd.R_reads' HO_917001.out).1.symm];exact (Kd.R_reads' HO_917001.out).2.1);rintro e w133 ⟨rfl,hb⟩;refine ⟨_,rfl,?_⟩;refine as17_ (Kd.R_below (z0_ HO_897000.out) hb) (Kd.R_below (z0_ HO_897001.out) hb) (Kd.R_below (z0_ HO_904000.out) hb) (Kd.R_below (z0_ HO_904001.out) hb) (Kd.R_below (z0_ HO_917000.out) hb) (Kd.R_below (z0_ HO_917001.out) hb) (Kd.R_below (z0_ HO941.out) hb) (Kd.R_below (z0_ HO944.out) hb) (Kd.R_below (z0_ HO947.out) hb) (Kd.R_below (z0_ HO950.out) hb) (Kd.R_below (z0_ HO953.out) hb) (blkB_ BK875.out hb) (blkB_ BK896.out hb) (blkB_ BK903.out hb) (blkB_ BK916.out hb) (blkB_ BK957.out hb) (below_step (z25_ HB.out GE875.out GE896.out GE903.out GE916.out GE957.out) hb) ?_;clear HO_897000 HO_897001 HO_904000 HO_904001 HO_917000 HO_917001 HO941 HO944 HO947 HO950 HO953 BK875 BK896 BK903 BK916 BK957 HB;intro HO_897000 HO_897001 HO_904000 HO_904001 HO_917000 HO_917001 HO941 HO944 HO947 HO950 HO953 BK875 BK896 BK903 BK916 BK957 HB;(try clear hb)))
               go_ret
               exact ⟨z8_,z25_ HB.out GE875.out GE896.out GE903.out GE916.out GE957.out⟩
              ·rw [if_neg c104] at H
               exact absurd H (by simp)
            ·replace c101:=Bool.eq_false_iff.mpr c101
             subst c101
             have H1:(none)=some r:=by rw [if_neg (show ¬ (false=true) by decide)] at H;exact H
             clear H
             have H:=H1
             clear H1
             exact absurd H (by simp)
           ·rw [if_neg c96] at H
            exact absurd H (by simp)
      ·replace c31:=Bool.eq_false_iff.mpr c31
       subst c31
       have H1:(none)=some r:=by rw [if_neg (show ¬ (false=true) by decide)] at H;exact H
       clear H
       have H:=H1
       clear H1
       exact absurd H (by simp)
     ·replace c28:=Bool.eq_false_iff.mpr c28
      subst c28
      have H1:(none)=some r:=by rw [if_neg (show ¬ (false=true) by decide)] at H;exact H
      clear H
      have H:=H1
      clear H1
      exact absurd H (by simp)
    ·replace c25:=Bool.eq_false_iff.mpr c25
     subst c25
     have H1:(none)=some r:=by rw [if_neg (show ¬ (false=true) by decide)] at H;exact H
     clear H
     have H:=H1
     clear H1
     exact absurd H (by simp)

end Go.Proofs.Ytphbgcfpcadabaa.P

namespace Go.Proofs.Ytphbgcfpcadabaa.P
open Go.RowKit Go.Proofs.Ytphbgcfpcadabaa.RO
def laws_FnExactSetPut.Pure:Prop:=∀ (x0:S32) (x1:List (S100)) (x2:Int) (x3:ByteArray) (x4:Bool),wfT32 x0→(x1.length≤maxLen∧∀ y_ ∈ x1,wfT100 y_)→(Lit.int .i64 x2).wf=true→x3.size≤140737488351232→∃ k,laws_FnExactSetPut.f k x0.f0 x0.f1 x1 x2 x3 x4=some true
end Go.Proofs.Ytphbgcfpcadabaa.P

namespace Go.Proofs.Ytphbgcfpcadabaa.Q
open Go.RowKit Go.Proofs.YtphbgcfpcadabaaW.PrintWords Go.Proofs.YtphbgcfpcadabaaW.PrintMore

theorem w64 {x:Int} (h0 : -9223372036854775808≤x) (h1:x≤9223372036854775807):wrap64 x=x:=by unfold wrap64;omega
theorem u64w (n:Int):IntKind.u64.wrap n=n % 18446744073709551616:=by simp [IntKind.wrap,IntKind.bits,IntKind.signed]
theorem evIte {α:Type} {c:Prop} [Decidable c] {f g:Nat→Option α} {r:α} (h:c→Ev f r) (h':¬ c→Ev g r):Ev (fun k=>if c then f k else g k) r:=by
  by_cases hc:c
  · simp only [if_pos hc];exact h hc
  · simp only [if_neg hc];exact h' hc
theorem evPos {α:Type} {c:Prop} [Decidable c] {f g:Nat→Option α} {r:α} (hc:c) (h:Ev f r):Ev (fun k=>if c then f k else g k) r:=by
  simp only [if_pos hc];exact h
theorem evNeg {α:Type} {c:Prop} [Decidable c] {f g:Nat→Option α} {r:α} (hc:¬ c) (h:Ev g r):Ev (fun k=>if c then f k else g k) r:=by
  simp only [if_neg hc];exact h
theorem evBind1 {α β:Type} {g:Option α} {f:Nat→α→Option β} {a:α} {r:β} (h:g=some a) (k:Ev (fun n=>f n a) r):Ev (fun n=>g.bind (f n)) r:=by
  subst h;exact k
theorem dropCons {α:Type} {l:List α} {i:Nat} {a:α} {s:List α} (h:l.drop i=a :: s) (d:α):i<l.length∧l.getD i d=a∧l.drop (i+1)=s:=by
  have hl:i<l.length:=by
    have:=congrArg List.length h
    simp at this;omega
  rw [List.drop_eq_getElem_cons hl] at h
  injection h with h1 h2
  exact ⟨hl,by rw [List.getD_eq_getElem?_getD,List.getElem?_eq_getElem hl];exact h1,h2⟩
theorem dropNil {α:Type} {l:List α} {i:Nat} (h:l.drop i=[]):l.length≤i:=by
  have:=congrArg List.length h
  simp at this;omega
theorem dropNil' {α:Type} {l:List α} {i:Nat} (h:l.drop i=[]) (hi:i≤l.length):l.length=i:=by
  have:=dropNil h;omega
end Go.Proofs.Ytphbgcfpcadabaa.Q

namespace Go.Proofs.Ytphbgcfpcadabaa.Q
open Go.RowKit Go.Proofs.Ytphbgcfpcadabaa.P Go.Proofs.YtphbgcfpcadabaaW.PrintWords Go.Proofs.YtphbgcfpcadabaaW.PrintMore

abbrev Mark:=S56
def isWithin (n low high:Int):Bool:=decide (low≤n) && decide (n≤high)
def isNode (n:Int):Bool:=isWithin n 1 5
def isDot (a b:Int):Bool:=isNode a && isWithin b 1 1000000
theorem l02Is_is (n a b:Int):spec_l02Is.f n a b=some (isWithin n a b):=by
  unfold spec_l02Is.f isWithin
  split
  · rename_i h;simp [show a≤n from h]
  · rename_i h;simp [show ¬ a≤n from h]
theorem l02Node_is (n:Int):spec_l02Node.f n=some (isNode n):=by simp [spec_l02Node.f,l02Is_is,isNode]
theorem l02Dot_is (a b:Int):spec_l02Dot.f a b=some (isDot a b):=by
  simp only [spec_l02Dot.f,l02Node_is,l02Is_is,isDot,Option.bind_some]
  cases isNode a <;> simp
theorem within_is (n a b:Int):impl_within.f n a b=some (isWithin n a b):=by
  unfold impl_within.f isWithin
  split
  · rename_i h;simp [show a≤n from h]
  · rename_i h;simp [show ¬ a≤n from h]
theorem isNode_is (n:Int):impl_isNode.f n=some (isNode n):=by simp [impl_isNode.f,within_is,isNode]
theorem isDot_is (a b:Int):impl_isDot.f a b=some (isDot a b):=by
  simp only [impl_isDot.f,isNode_is,within_is,isDot,Option.bind_some]
  cases isNode a <;> simp
/-- Dots whose nodes rise from above p. -/
def okFrom:Int→List Mark→Bool
  | _,[]=>true
  | p,m :: r=>isDot m.f0 m.f1 && (decide (p<m.f0) && okFrom m.f0 r)
def seenOk (v:List Mark):Bool:=okFrom 0 v
theorem isNode_iff (n:Int):isNode n=true ↔ 1≤n∧n≤5:=by simp [isNode,isWithin]
theorem isDot_iff (a b:Int):isDot a b=true ↔ (1≤a∧a≤5)∧1≤b∧b≤1000000:=by simp [isDot,isNode,isWithin]
/-- The node ahead of place i. -/
def prevAt (l:List Mark) (i:Nat):Int:=if i=0 then 0 else (l.getD (i-1) z56).f0
theorem prevAt_succ {l:List Mark} {i:Nat} {m:Mark} (h:l.getD i z56=m):prevAt l (i+1)=m.f0:=by
  simp only [prevAt,Nat.add_sub_cancel,h]
  simp
theorem impl_seenRight_l0 (l:List Mark) (hl:l.length≤4611686018427387904):∀ (s:List Mark) (i:Nat),l.drop i=s→i≤l.length→0≤prevAt l i →
    Ev (fun k=>impl_seenRight.l0 k l l (l.length:Int) (i:Int)) (okFrom (prevAt l i) s)
  | [],i,h,hi,hp=>by
    have:=dropNil' h hi
    refine Ev.step (f:=fun _=>some true) (fun k=>?_) (Ev.now _)
    simp only [impl_seenRight.l0]
    rw [if_neg (by omega)]
  | m :: s,i,h,hi,hp=>by
    obtain ⟨h1,h2,h3⟩:=dropCons h z56
    have hr:rd_T56 l (i:Int)=m:=by simpa [rd_T56] using h2
    have ih:=fun hq=>impl_seenRight_l0 l hl s (i+1) h3 (by omega) hq
    rw [prevAt_succ h2] at ih
    by_cases hd:isDot m.f0 m.f1=true
    · have hd':=(isDot_iff _ _).1 hd
      by_cases hlt:prevAt l i<m.f0
      · have ih:=ih (by omega)
        refine Ev.step (fun k=>?_) (show Ev _ (okFrom (prevAt l i) (m :: s)) from by simp only [okFrom,hd,hlt,decide_true,Bool.true_and];exact ih)
        simp only [impl_seenRight.l0,hr,isDot_is,Option.bind_some]
        rw [if_pos (by omega),if_pos (by omega),if_pos (by omega),if_pos hd,w64 (x:=(i:Int)+1) (by omega) (by omega)]
        by_cases hi0:i=0
        · subst hi0
          rw [if_neg (by omega)];rfl
        · have hq:rd_T56 l ((i:Int)-1)=l.getD (i-1) z56:=by
            simp only [rd_T56];congr 1;omega
          rw [w64 (x:=(i:Int)-1) (by omega) (by omega),if_pos (by omega),if_pos (by omega),if_pos (by omega),hq,if_neg (by simp only [prevAt,if_neg hi0] at hlt;omega)]
          rfl
      · refine Ev.step (f:=fun _=>some false) (fun k=>?_) (show Ev _ (okFrom (prevAt l i) (m :: s)) from by simp only [okFrom,hd,hlt,decide_false,Bool.false_and,Bool.and_false];exact Ev.now _)
        have hi0:i≠0:=by
          intro e;subst e
          simp [prevAt] at hlt;omega
        have hq:rd_T56 l ((i:Int)-1)=l.getD (i-1) z56:=by
          simp only [rd_T56];congr 1;omega
        simp only [impl_seenRight.l0,hr,isDot_is,Option.bind_some]
        rw [if_pos (by omega),if_pos (by omega),if_pos (by omega),if_pos hd,w64 (x:=(i:Int)-1) (by omega) (by omega),if_pos (by omega),if_pos (by omega),if_pos (by omega),hq,
          if_pos (by simp only [prevAt,if_neg hi0] at hlt;omega)]
    · refine Ev.step (f:=fun _=>some false) (fun k=>?_) (show Ev _ (okFrom (prevAt l i) (m :: s)) from by simp only [okFrom,Bool.eq_false_iff.mpr hd,Bool.false_and];exact Ev.now _)
      simp only [impl_seenRight.l0,hr,isDot_is,Option.bind_some]
      rw [if_pos (by omega),if_pos (by omega),if_pos (by omega),if_neg hd]
theorem impl_seenRight_ev (l:List Mark) (hl:l.length≤4611686018427387904):Ev (fun k=>impl_seenRight.f k l) (seenOk l) :=
  impl_seenRight_l0 l hl l 0 rfl (by omega) (by simp [prevAt])
theorem spec_SeenRight_l0 (l:List Mark) (hl:l.length≤4611686018427387904):∀ (s:List Mark) (i:Nat),l.drop i=s→i≤l.length→(i:Int)≤prevAt l i→prevAt l i≤5 →
    Ev (fun k=>spec_SeenRight.l0 k l (i:Int)) (okFrom (prevAt l i) s)
  | [],i,h,hi,hp,hp5=>by
    have:=dropNil' h hi
    refine Ev.step (f:=fun k=>spec_SeenRight.j1 k l (i:Int) false) (fun k=>?_) (Ev.step (f:=fun _=>some true) (fun k=>?_) (Ev.now _))
    · simp only [spec_SeenRight.l0]
      rw [if_neg (by omega)]
    · simp only [spec_SeenRight.j1]
      rw [if_neg (by simp)]
      congr 1
      simp;omega
  | m :: s,i,h,hi,hp,hp5=>by
    obtain ⟨h1,h2,h3⟩:=dropCons h z56
    have hr:rd_T56 l (i:Int)=m:=by simpa [rd_T56] using h2
    have ih:=fun hq=>spec_SeenRight_l0 l hl s (i+1) h3 (by omega) hq
    rw [prevAt_succ h2] at ih
    have hj:decide ((i:Int)≤5)=true:=by simp;omega
    have hl0:∀ k,spec_SeenRight.l0 (k+1) l (i:Int)=spec_SeenRight.j1 k l (i:Int) true:=fun k=>by
      simp only [spec_SeenRight.l0]
      rw [if_pos (by omega),hj]
    by_cases hd:isDot m.f0 m.f1=true
    · have hd':=(isDot_iff _ _).1 hd
      by_cases hlt:prevAt l i<m.f0
      · have ih:=ih (by omega) (by omega)
        refine Ev.step hl0 (Ev.step (fun k=>?_) (show Ev _ (okFrom (prevAt l i) (m :: s)) from by simp only [okFrom,hd,hlt,decide_true,Bool.true_and];exact ih))
        simp only [spec_SeenRight.j1,hr,l02Dot_is,Option.bind_some]
        rw [if_pos trivial,if_pos (by omega),if_pos (by omega),if_pos hd,w64 (x:=(i:Int)+1) (by omega) (by omega)]
        by_cases hi0:i=0
        · subst hi0
          rw [if_neg (by omega)];rfl
        · have hq:rd_T56 l ((i:Int)-1)=l.getD (i-1) z56:=by
            simp only [rd_T56];congr 1;omega
          rw [w64 (x:=(i:Int)-1) (by omega) (by omega),if_pos (by omega),if_pos (by omega),if_pos (by omega),hq,if_neg (by simp only [prevAt,if_neg hi0] at hlt;omega)]
          rfl
      · refine Ev.step hl0 (Ev.step (f:=fun _=>some false) (fun k=>?_) (show Ev _ (okFrom (prevAt l i) (m :: s)) from by simp only [okFrom,hd,hlt,decide_false,Bool.false_and,Bool.and_false];exact Ev.now _))
        have hi0:i≠0:=by
          intro e;subst e
          simp [prevAt] at hlt;omega
        have hq:rd_T56 l ((i:Int)-1)=l.getD (i-1) z56:=by
          simp only [rd_T56];congr 1;omega
        simp only [spec_SeenRight.j1,hr,l02Dot_is,Option.bind_some]
        rw [if_pos trivial,if_pos (by omega),if_pos (by omega),if_pos hd,w64 (x:=(i:Int)-1) (by omega) (by omega),if_pos (by omega),if_pos (by omega),if_pos (by omega),hq,
          if_pos (by simp only [prevAt,if_neg hi0] at hlt;omega)]
    · refine Ev.step hl0 (Ev.step (f:=fun _=>some false) (fun k=>?_) (show Ev _ (okFrom (prevAt l i) (m :: s)) from by simp only [okFrom,Bool.eq_false_iff.mpr hd,Bool.false_and];exact Ev.now _))
      simp only [spec_SeenRight.j1,hr,l02Dot_is,Option.bind_some]
      rw [if_pos trivial,if_pos (by omega),if_pos (by omega),if_neg hd]
theorem spec_SeenRight_ev (l:List Mark) (hl:l.length≤4611686018427387904):Ev (fun k=>spec_SeenRight.f k l) (seenOk l) :=
  spec_SeenRight_l0 l hl l 0 rfl (by omega) (by simp [prevAt]) (by simp [prevAt])
end Go.Proofs.Ytphbgcfpcadabaa.Q

namespace Go.Proofs.Ytphbgcfpcadabaa.Q
open Go.RowKit Go.Proofs.Ytphbgcfpcadabaa.P Go.Proofs.YtphbgcfpcadabaaW.PrintWords Go.Proofs.YtphbgcfpcadabaaW.PrintMore

abbrev LMark:=S100
def toMark (m:LMark):Mark:=⟨m.f0,m.f1⟩
theorem szMarkS_is (l:List LMark) (n:Int) (h0:0≤n) (h1:n≤1048576) (hl:l.length≤9223372036854775807) :
    laws_szMarkS.f l n=some (if n<(l.length:Int) then -1 else n-(l.length:Int)):=by
  unfold laws_szMarkS.f
  rw [w64 (by omega) (by omega)]
  split
  · rw [if_pos (by omega)]
  · rw [if_neg (by omega)]
theorem toMarkS_l0 (l:List LMark) (hl:l.length≤1048576):∀ (s:List LMark) (i:Nat),l.drop i=s→i≤l.length→∀ (acc:List Mark),acc.length=l.length→acc.take i=(l.take i).map toMark →
    Ev (fun k=>laws_toMarkS.l0 k l acc (i:Int)) (l.map toMark)
  | [],i,h,hi,acc,ha,hc=>by
    have:=dropNil' h hi
    refine Ev.step (f:=fun _=>some (l.map toMark)) (fun k=>?_) (Ev.now _)
    simp only [laws_toMarkS.l0]
    rw [if_neg (by omega)]
    rw [← this,List.take_of_length_le (by omega),List.take_length] at hc
    rw [hc]
  | m :: s,i,h,hi,acc,ha,hc=>by
    obtain ⟨h1,h2,h3⟩:=dropCons h z100
    have hr:rd_T100 l (i:Int)=m:=by simpa [rd_T100] using h2
    have hm:l[i]'h1=m:=by
      rw [List.getD_eq_getElem?_getD,List.getElem?_eq_getElem h1] at h2;exact h2
    refine Ev.step (fun k=>?_) (toMarkS_l0 l hl s (i+1) h3 (by omega) (acc.set i (toMark m)) (by simpa using ha) (by
      rw [List.take_succ_eq_append_getElem (by simp;omega),List.take_succ_eq_append_getElem h1,List.map_append,List.take_set_of_le (by omega),hc]
      simp [hm]))
    simp only [laws_toMarkS.l0,laws_toMark.f,hr,Option.bind_some,Int.toNat_natCast]
    rw [if_pos (by omega),if_pos (by omega),if_pos (by omega),w64 (by omega) (by omega)]
    rfl
theorem toMarkS_ev (l:List LMark) (hl:l.length≤1048576):Ev (fun k=>laws_toMarkS.f k l) (l.map toMark):=by
  unfold laws_toMarkS.f
  refine evPos (by omega) (evPos (by omega) ?_)
  exact toMarkS_l0 l hl l 0 rfl (by omega) _ (by simp) (by simp)
theorem eqMark_refl (a b:Int):laws_eqMark.f a b a b=some true:=by simp [laws_eqMark.f]
theorem eqMarkS_l0 (l:List Mark) (hl:l.length≤4611686018427387904):∀ (s:List Mark) (i:Nat),l.drop i=s→i≤l.length →
    Ev (fun k=>laws_eqMarkS.l0 k l l (i:Int)) true
  | [],i,h,hi=>by
    have:=dropNil' h hi
    refine Ev.step (f:=fun _=>some true) (fun k=>?_) (Ev.now _)
    simp only [laws_eqMarkS.l0]
    rw [if_neg (by omega)]
  | m :: s,i,h,hi=>by
    obtain ⟨h1,h2,h3⟩:=dropCons h z56
    refine Ev.step (fun k=>?_) (eqMarkS_l0 l hl s (i+1) h3 (by omega))
    simp only [laws_eqMarkS.l0,eqMark_refl,Option.bind_some]
    rw [if_pos (by omega),if_pos (by omega),if_pos (by omega),if_pos trivial,w64 (by omega) (by omega)]
    rfl
theorem eqMarkS_ev (l:List Mark) (hl:l.length≤4611686018427387904):Ev (fun k=>laws_eqMarkS.f k l l) true:=by
  unfold laws_eqMarkS.f
  exact evPos rfl (eqMarkS_l0 l hl l 0 rfl (by omega))
end Go.Proofs.Ytphbgcfpcadabaa.Q

namespace Go.Proofs.Ytphbgcfpcadabaa.Q
open Go.RowKit Go.Proofs.Ytphbgcfpcadabaa.P Go.Proofs.YtphbgcfpcadabaaW.PrintWords Go.Proofs.YtphbgcfpcadabaaW.PrintMore

theorem getD_mid {α:Type} (pre:List α) (m:α) (s:List α) (d:α):(pre ++ m :: s).getD pre.length d=m:=by
  rw [List.getD_eq_getElem?_getD,List.getElem?_append_right (Nat.le_refl _),Nat.sub_self];rfl
theorem set_mid {α:Type} (pre:List α) (m x:α) (s:List α):(pre ++ m :: s).set pre.length x=pre ++ x :: s:=by
  rw [List.set_append_right _ _ (Nat.le_refl _),Nat.sub_self];rfl
def markL:Int→List Mark→List Mark
  | _,[]=>[]
  | n,_ :: r=>⟨n,n+1⟩ :: markL (n+2) r
theorem markMarkS_l0 (N:Int) (hN:N≤1152921504606846976):∀ (s pre:List Mark) (n:Int),0≤n→n+2*(s.length:Int)≤N→(pre.length:Int)+s.length≤N →
    Ev (fun k=>laws_markMarkS.l0 k (pre ++ s) n (pre.length:Int)) (n+2*(s.length:Int),pre ++ markL n s)
  | [],pre,n,h0,h1,h2=>by
    refine Ev.step (f:=fun _=>some (n,pre)) (fun k=>?_) (by simp [markL];exact Ev.now _)
    simp only [laws_markMarkS.l0,List.append_nil]
    rw [if_neg (by omega)]
  | m :: s,pre,n,h0,h1,h2=>by
    simp only [List.length_cons] at h1 h2
    have ih:=markMarkS_l0 N hN s (pre ++ [⟨n,n+1⟩]) (n+2) (by omega) (by omega) (by simp;omega)
    simp only [List.length_append,List.length_cons,List.length_nil,List.append_assoc,List.cons_append,List.nil_append] at ih
    refine Ev.step (fun k=>?_) (show Ev _ (n+2*((m :: s).length:Int),pre ++ markL n (m :: s)) from by
      simp only [markL,List.length_cons]
      rw [show n+2*((s.length+1:Nat):Int)=n+2+2*(s.length:Int) from by omega]
      exact ih)
    simp only [laws_markMarkS.l0,Option.bind_some,Int.toNat_natCast,rd_T56,set_mid,getD_mid]
    rw [if_pos (by simp;omega),if_pos (by omega),w64 (x:=n+1) (by omega) (by omega),w64 (x:=n+1+1) (by omega) (by omega),w64 (x:=(pre.length:Int)+1) (by omega) (by omega),show n+1+1=n+2 from by omega]
    rfl
theorem markMarkS_ev (s:List Mark) (n:Int) (h0:0≤n) (h1:n+2*(s.length:Int)≤1152921504606846976):Ev (fun k=>laws_markMarkS.f k s n) (n+2*(s.length:Int),markL n s) :=
  markMarkS_l0 1152921504606846976 (Int.le_refl _) s [] n h0 h1 (by simp;omega)
theorem heldMarkS_l0 (N:Int) (hN:N≤1152921504606846976):∀ (s pre:List Mark) (n:Int),0≤n→n+2*(s.length:Int)≤N→(pre.length:Int)+s.length≤N →
    Ev (fun k=>laws_heldMarkS.l0 k (pre ++ markL n s) n (pre.length:Int)) (n+2*(s.length:Int))
  | [],pre,n,h0,h1,h2=>by
    refine Ev.step (f:=fun _=>some n) (fun k=>?_) (by simp;exact Ev.now _)
    simp only [laws_heldMarkS.l0,markL,List.append_nil]
    rw [if_neg (by omega)]
  | m :: s,pre,n,h0,h1,h2=>by
    simp only [List.length_cons] at h1 h2
    have ih:=heldMarkS_l0 N hN s (pre ++ [⟨n,n+1⟩]) (n+2) (by omega) (by omega) (by simp;omega)
    simp only [List.length_append,List.length_cons,List.length_nil,List.append_assoc,List.cons_append,List.nil_append] at ih
    refine Ev.step (fun k=>?_) (show Ev _ (n+2*((m :: s).length:Int)) from by
      simp only [List.length_cons]
      rw [show n+2*((s.length+1:Nat):Int)=n+2+2*(s.length:Int) from by omega]
      exact ih)
    have hr:rd_T56 (pre ++ markL n (m :: s)) (pre.length:Int)=⟨n,n+1⟩:=by simp only [rd_T56,Int.toNat_natCast,markL,getD_mid]
    simp only [laws_heldMarkS.l0,hr]
    rw [if_pos (by simp [markL];omega),if_pos (by omega),w64 (x:=n+1) (by omega) (by omega),if_pos trivial,if_pos rfl,w64 (x:=n+1+1) (by omega) (by omega),w64 (x:=(pre.length:Int)+1) (by omega) (by omega),show n+1+1=n+2 from by omega]
    rfl
theorem heldMarkS_ev (s:List Mark) (n:Int) (h0:0≤n) (h1:n+2*(s.length:Int)≤1152921504606846976):Ev (fun k=>laws_heldMarkS.f k (markL n s) n) (n+2*(s.length:Int)) :=
  heldMarkS_l0 1152921504606846976 (Int.le_refl _) s [] n h0 h1 (by simp;omega)
end Go.Proofs.Ytphbgcfpcadabaa.Q

namespace Go.Proofs.Ytphbgcfpcadabaa.P
open Go.RowKit Go.Proofs.YtphbgcfpcadabaaW.PrintWords Go.Proofs.YtphbgcfpcadabaaW.PrintLast Go.Proofs.YtphbgcfpcadabaaW.PrintMore
attribute [local go_sem] max2_int min2_int max_two min_two max_three min_three max_four min_four   -- for this text's walks alone
set_option linter.unusedVariables false
set_option linter.unusedSimpArgs false

/-! ### impl_size: function 79 -/
def impl_size.f (a0:ByteArray):Option (Int):=some (a0.size:Int)
end Go.Proofs.Ytphbgcfpcadabaa.P

namespace Go.Proofs.Ytphbgcfpcadabaa.Q
open Go.RowKit Go.Proofs.Ytphbgcfpcadabaa.P Go.Proofs.YtphbgcfpcadabaaW.PrintWords Go.Proofs.YtphbgcfpcadabaaW.PrintMore

def firstLong:List ByteArray→Int→Int
  | [],_ => -1
  | a :: s,i=>if 8000<a.size then i else firstLong s (i+1)
theorem firstLong_any:∀ (s:List ByteArray) (i:Int),0≤i→decide (firstLong s i≥0)=s.any fun a=>decide (8000<a.size)
  | [],i,h=>by simp [firstLong]
  | a :: s,i,h=>by
    have ih:=firstLong_any s (i+1) (by omega)
    by_cases ha:8000<a.size
    · simp [firstLong,ha,h]
    · rw [firstLong,if_neg ha,ih,List.any_cons]
      simp [ha]
theorem isLong_l0 (l:List ByteArray) (hl:l.length≤4611686018427387904):∀ (s:List ByteArray) (i:Nat),l.drop i=s→i≤l.length →
    Ev (fun k=>slices_IndexFunc_string_string_impl_isLong_1.l0 k l (l.length:Int) (i:Int)) (firstLong s i)
  | [],i,h,hi=>by
    have:=dropNil' h hi
    refine Ev.step (f:=fun _=>some (-1)) (fun k=>?_) (Ev.now _)
    simp only [slices_IndexFunc_string_string_impl_isLong_1.l0]
    rw [if_neg (by omega)]
  | a :: s,i,h,hi=>by
    obtain ⟨h1,h2,h3⟩:=dropCons h ByteArray.empty
    have ih:=isLong_l0 l hl s (i+1) h3 (by omega)
    by_cases ha:8000<a.size
    · refine Ev.step (f:=fun _=>some (firstLong (a :: s) i)) (fun k=>?_) (Ev.now _)
      simp only [slices_IndexFunc_string_string_impl_isLong_1.l0,impl_isLong_1.f,rdOf,Int.toNat_natCast,h2]
      rw [if_pos (by omega),if_pos (by omega),if_pos (by omega)]
      simp [firstLong,ha]
      omega
    · refine Ev.step (fun k=>?_) (show Ev _ (firstLong (a :: s) i) from by simp only [firstLong,if_neg ha];exact ih)
      simp only [slices_IndexFunc_string_string_impl_isLong_1.l0,impl_isLong_1.f,rdOf,Int.toNat_natCast,h2]
      rw [if_pos (by omega),if_pos (by omega),if_pos (by omega),w64 (by omega) (by omega)]
      have:¬ ((a.size:Int)>8000):=by omega
      simp [this]
theorem isLong_ev (l:List ByteArray) (hl:l.length≤4611686018427387904):Ev (fun k=>impl_isLong.f k l) (l.any fun a=>decide (8000<a.size)):=by
  unfold impl_isLong.f slices_ContainsFunc_string_string_impl_isLong_1.f slices_IndexFunc_string_string_impl_isLong_1.f
  have h:=isLong_l0 l hl l 0 rfl (by omega)
  refine Ev.bind (Ev.bind h (Ev.now _)) ?_
  have e:=firstLong_any l 0 (by omega)
  rw [show ((0:Nat):Int)=0 from rfl,e]
  exact Ev.now _
theorem isLong1_ev (a:ByteArray):Ev (fun k=>impl_isLong.f k ([a]:List ByteArray)) (decide (8000<a.size)):=by
  have:=isLong_ev [a] (by simp)
  simpa using this
end Go.Proofs.Ytphbgcfpcadabaa.Q

namespace Go.Proofs.Ytphbgcfpcadabaa.Q
open Go.RowKit Go.Proofs.Ytphbgcfpcadabaa.P Go.Proofs.YtphbgcfpcadabaaW.PrintWords Go.Proofs.YtphbgcfpcadabaaW.PrintMore

def seenOf:List Mark→Int→Int
  | [],_=>0
  | m :: r,n=>if m.f0=n then m.f1 else seenOf r n
theorem l02Of_l0 (l:List Mark) (n:Int) (hl:l.length≤4611686018427387904):∀ (s:List Mark) (i:Nat),l.drop i=s→i≤l.length→Ev (fun k=>spec_l02Of.l0 k l n (i:Int)) (seenOf s n)
  | [],i,h,hi=>by
    have:=dropNil' h hi
    refine Ev.step (f:=fun _=>some 0) (fun k=>?_) (Ev.now _)
    simp only [spec_l02Of.l0]
    rw [if_neg (by omega)]
  | m :: s,i,h,hi=>by
    obtain ⟨h1,h2,h3⟩:=dropCons h z56
    have hr:rd_T56 l (i:Int)=m:=by simpa [rd_T56] using h2
    refine Ev.step (f:=fun k=>if m.f0=n then some m.f1 else spec_l02Of.l0 k l n ((i+1:Nat):Int)) (fun k=>?_) ?_
    · simp only [spec_l02Of.l0,hr]
      rw [if_pos (by omega),if_pos (by omega),w64 (by omega) (by omega)]
      rfl
    · simp only [seenOf]
      refine evIte (fun h=>?_) (fun h=>?_)
      · rw [if_pos h];exact Ev.now _
      · rw [if_neg h];exact l02Of_l0 l n hl s (i+1) h3 (by omega)
theorem l02Of_ev (l:List Mark) (n:Int) (hl:l.length≤4611686018427387904):Ev (fun k=>spec_l02Of.f k l n) (seenOf l n):=l02Of_l0 l n hl l 0 rfl (by omega)
theorem seenOf_l0 (l:List Mark) (n:Int) (hl:l.length≤4611686018427387904):∀ (s:List Mark) (i:Nat),l.drop i=s→i≤l.length→Ev (fun k=>impl_seenOf.l0 k n l (l.length:Int) (i:Int)) (seenOf s n)
  | [],i,h,hi=>by
    have:=dropNil' h hi
    refine Ev.step (f:=fun _=>some 0) (fun k=>?_) (Ev.now _)
    simp only [impl_seenOf.l0]
    rw [if_neg (by omega)]
  | m :: s,i,h,hi=>by
    obtain ⟨h1,h2,h3⟩:=dropCons h z56
    have hr:rd_T56 l (i:Int)=m:=by simpa [rd_T56] using h2
    refine Ev.step (f:=fun k=>if m.f0=n then some m.f1 else impl_seenOf.l0 k n l (l.length:Int) ((i+1:Nat):Int)) (fun k=>?_) ?_
    · simp only [impl_seenOf.l0,hr]
      rw [if_pos (by omega),if_pos (by omega),if_pos (by omega),w64 (by omega) (by omega)]
      rfl
    · simp only [seenOf]
      refine evIte (fun h=>?_) (fun h=>?_)
      · rw [if_pos h];exact Ev.now _
      · rw [if_neg h];exact seenOf_l0 l n hl s (i+1) h3 (by omega)
theorem seenOf_ev (l:List Mark) (n:Int) (hl:l.length≤4611686018427387904):Ev (fun k=>impl_seenOf.f k l n) (seenOf l n):=seenOf_l0 l n hl l 0 rfl (by omega)
def seenHas (l:List Mark) (a b:Int):Bool:=decide (b≤seenOf l a)
def seenHasOut (l:List Mark) (a b:Int):Bool:=seenOk l && (isDot a b && seenHas l a b)
theorem seenHas_ev (l:List Mark) (a b:Int) (hl:l.length≤4611686018427387904):Ev (fun k=>impl_seenHas.f k l a b) (seenHas l a b):=Ev.bind (seenOf_ev l a hl) (Ev.now _)
theorem spec_SeenHas_ev (l:List Mark) (a b:Int) (hl:l.length≤4611686018427387904):Ev (fun k=>spec_SeenHas.f k l a b) (seenHasOut l a b):=by
  unfold spec_SeenHas.f seenHasOut
  refine Ev.bind (spec_SeenRight_ev l hl) ?_
  cases seenOk l with
  | false=>exact evNeg (by simp) (Ev.now _)
  | true =>
    refine evPos rfl (evBind1 (l02Dot_is a b) ?_)
    cases isDot a b with
    | false=>exact evNeg (by simp) (Ev.now _)
    | true=>exact evPos rfl (Ev.bind (l02Of_ev l a hl) (Ev.now _))
/-- The join at the nodes from one on. -/
def joinFrom (a b:List Mark):Nat→Int→List Mark
  | 0,_=>[]
  | f+1,n=>(if mx (seenOf a n) (seenOf b n)>0 then [⟨n,mx (seenOf a n) (seenOf b n)⟩] else []) ++ joinFrom a b f (n+1)
def seenJoin (a b:List Mark):List Mark:=joinFrom a b 5 1
theorem l01Max_is (a b:Int):spec_l01Max.f a b=some (mx a b):=by
  unfold spec_l01Max.f mx
  by_cases h:a>b
  · rw [if_pos h,if_neg (by omega)]
  · rw [if_neg h]
    by_cases h2:a<b
    · rw [if_pos h2]
    · rw [if_neg h2,show a=b from by omega]
theorem l02Join_l0 (a b:List Mark) (ha:a.length≤4611686018427387904) (hb:b.length≤4611686018427387904):∀ (f:Nat) (n:Int),n+f=6→f≤5→∀ acc:List Mark,acc.length+f≤5→Ev (fun k=>spec_l02Join.l0 k a b acc n) (acc ++ joinFrom a b f n)
  | 0,n,hn,hf,acc,hacc=>by
    refine Ev.step (f:=fun _=>some acc) (fun k=>?_) (by simp only [joinFrom,List.append_nil];exact Ev.now _)
    simp only [spec_l02Join.l0]
    rw [if_neg (by omega)]
  | f+1,n,hn,hf,acc,hacc=>by
    refine Ev.step (fun k=>by simp only [spec_l02Join.l0];rw [if_pos (show n≤5 by omega),w64 (x:=n+1) (by omega) (by omega)]) (Ev.bind (l02Of_ev a n ha) (Ev.bind (l02Of_ev b n hb) (evBind1 (l01Max_is _ _) ?_)))
    simp only [joinFrom]
    refine evIte (fun h=>?_) (fun h=>?_)
    · rw [if_pos h,← List.append_assoc]
      exact evPos (by omega) (l02Join_l0 a b ha hb f (n+1) (by omega) (by omega) _ (by simp;omega))
    · rw [if_neg h,List.nil_append]
      exact l02Join_l0 a b ha hb f (n+1) (by omega) (by omega) _ (by omega)
theorem l02Join_ev (a b:List Mark) (ha:a.length≤4611686018427387904) (hb:b.length≤4611686018427387904):Ev (fun k=>spec_l02Join.f k a b) (seenJoin a b):=by
  have:=l02Join_l0 a b ha hb 5 1 (by omega) (by omega) [] (by simp)
  simpa [spec_l02Join.f,seenJoin] using this
theorem seenJoin_l0 (a b:List Mark) (ha:a.length≤4611686018427387904) (hb:b.length≤4611686018427387904):∀ (f:Nat) (n:Int),n+f=6→f≤5→∀ acc:List Mark,acc.length+f≤5→Ev (fun k=>impl_seenJoin.l0 k a b acc n) (acc ++ joinFrom a b f n)
  | 0,n,hn,hf,acc,hacc=>by
    refine Ev.step (f:=fun _=>some acc) (fun k=>?_) (by simp only [joinFrom,List.append_nil];exact Ev.now _)
    simp only [impl_seenJoin.l0]
    rw [if_neg (by omega)]
  | f+1,n,hn,hf,acc,hacc=>by
    refine Ev.step (fun k=>by simp only [impl_seenJoin.l0];rw [if_pos (show n≤5 by omega),w64 (x:=n+1) (by omega) (by omega)]) (Ev.bind (seenOf_ev a n ha) (Ev.bind (seenOf_ev b n hb) ?_))
    simp only [joinFrom]
    refine evIte (fun h=>?_) (fun h=>?_)
    · rw [if_pos h,← List.append_assoc]
      exact evPos (by omega) (seenJoin_l0 a b ha hb f (n+1) (by omega) (by omega) _ (by simp;omega))
    · rw [if_neg h,List.nil_append]
      exact seenJoin_l0 a b ha hb f (n+1) (by omega) (by omega) _ (by omega)
theorem seenJoin_ev (a b:List Mark) (ha:a.length≤4611686018427387904) (hb:b.length≤4611686018427387904):Ev (fun k=>impl_seenJoin.f k a b) (seenJoin a b):=by
  have:=seenJoin_l0 a b ha hb 5 1 (by omega) (by omega) [] (by simp)
  simpa [impl_seenJoin.f,seenJoin] using this
theorem joinFrom_length (a b:List Mark):∀ (f:Nat) (n:Int),(joinFrom a b f n).length≤f
  | 0,n=>by simp [joinFrom]
  | f+1,n=>by
    have:=joinFrom_length a b f (n+1)
    simp only [joinFrom]
    split <;> simp <;> omega
theorem seenJoin_length (a b:List Mark):(seenJoin a b).length≤5:=joinFrom_length a b 5 1
theorem okFrom_mem:∀ (s:List Mark) (p:Int),okFrom p s=true→∀ m ∈ s,isDot m.f0 m.f1=true∧p<m.f0
  | [],_,_,m,hm=>by simp at hm
  | x :: r,p,h,m,hm=>by
    simp only [okFrom,Bool.and_eq_true,decide_eq_true_eq] at h
    rcases List.mem_cons.1 hm with rfl | hm
    · exact ⟨h.1,h.2.1⟩
    · have:=okFrom_mem r x.f0 h.2.2 m hm
      exact ⟨this.1,by omega⟩
/-- Marks whose numbers are small. -/
def Small (v:List Mark):Prop:=∀ m ∈ v,(0≤m.f0∧m.f0≤4294967295)∧0≤m.f1∧m.f1≤4294967295
theorem seenOk_small {v:List Mark} (h:seenOk v=true):Small v:=fun m hm=>by
  have:=(isDot_iff _ _).1 (okFrom_mem v 0 h m hm).1
  omega
end Go.Proofs.Ytphbgcfpcadabaa.Q

namespace Go.Proofs.Ytphbgcfpcadabaa.Q
open Go.RowKit Go.Proofs.Ytphbgcfpcadabaa.P Go.Proofs.YtphbgcfpcadabaaW.PrintWords Go.Proofs.YtphbgcfpcadabaaW.PrintMore

abbrev Sib:=S91
def dotLess (a b c d:Int):Bool:=decide (a<c) || (decide (a=c) && decide (b<d))
def dataOk (t:ByteArray) (gone:Bool):Bool:=decide (t.size≤16) && (!gone || decide (t.toList=[]))
def sibOk (v:List Mark) (x:Sib):Bool:=isDot x.f0.f0 x.f0.f1 && (seenHas v x.f0.f0 x.f0.f1 && dataOk x.f2 x.f1)
def sibsFrom (v:List Mark):Option Sib→List Sib→Bool
  | _,[]=>true
  | none,x :: r=>sibOk v x && sibsFrom v (some x) r
  | some y,x :: r=>sibOk v x && (dotLess y.f0.f0 y.f0.f1 x.f0.f0 x.f0.f1 && sibsFrom v (some x) r)
def setOk (v:List Mark) (s:List Sib):Bool:=seenOk v && (decide (s.length≤8) && sibsFrom v none s)
/-- The sibling ahead of place i. -/
def prevSib (l:List Sib) (i:Nat):Option Sib:=if i=0 then none else some (l.getD (i-1) z91)
theorem prevSib_succ {l:List Sib} {i:Nat} {x:Sib} (h:l.getD i z91=x):prevSib l (i+1)=some x:=by
  simp only [prevSib,Nat.add_sub_cancel,h]
  simp
theorem l03Less_is (a b c d:Int):spec_l03Less.f a b c d=some (dotLess a b c d):=by
  unfold spec_l03Less.f dotLess
  by_cases h:a<c
  · rw [if_pos h];simp [h]
  · rw [if_neg h]
    by_cases h2:a=c
    · rw [if_pos h2];simp [h2]
    · rw [if_neg h2];simp [h,h2]
def cmpI (a b:Int):Int:=if a<b then -1 else if a>b then 1 else 0
theorem Compare_is (a b:Int):cmp_Compare_int64.f a b=some (cmpI a b):=by
  simp only [cmp_Compare_int64.f,cmp_isNaN_int64.f,cmpI]
  by_cases h:a<b
  · simp [h]
  · by_cases h2:a>b
    · simp [h,h2]
    · simp [h,h2]
theorem Or_ev (x y:Int):Ev (fun k=>cmp_Or_int.f k [x,y]) (if x=0 then y else x):=by
  unfold cmp_Or_int.f
  have hx:rd [x,y] 0=x:=rfl
  have hy:rd [x,y] 1=y:=rfl
  have hl:(([x,y]:List Int).length:Int)=2:=rfl
  rw [hl]
  refine Ev.step (f:=fun k=>if x=0 then cmp_Or_int.l0 k 0 [x,y] 2 1 else some x) (fun k=>?_) ?_
  · simp only [cmp_Or_int.l0,hx,hl]
    rw [if_pos (by omega),if_pos (by omega),if_pos (by omega),w64 (by omega) (by omega)]
    rfl
  · refine evIte (fun h=>?_) (fun h=>?_)
    · rw [if_pos h]
      refine Ev.step (f:=fun k=>if y=0 then cmp_Or_int.l0 k 0 [x,y] 2 2 else some y) (fun k=>?_) ?_
      · simp only [cmp_Or_int.l0,hy,hl]
        rw [if_pos (by omega),if_pos (by omega),if_pos (by omega),w64 (by omega) (by omega)]
        rfl
      · refine evIte (fun h=>?_) (fun h=>Ev.now _)
        refine Ev.step (f:=fun _=>some y) (fun k=>?_) (Ev.now _)
        simp only [cmp_Or_int.l0]
        rw [if_neg (by omega),h]
    · rw [if_neg h];exact Ev.now _
def cmpDots (a b c d:Int):Int:=if cmpI a c=0 then cmpI b d else cmpI a c
theorem compareDots_ev (a b c d:Int):Ev (fun k=>impl_compareDots.f k a b c d) (cmpDots a b c d):=by
  unfold impl_compareDots.f
  exact evBind1 (Compare_is a c) (evBind1 (Compare_is b d) (Ev.bind (Or_ev _ _) (Ev.now _)))
theorem cmpDots_ge (a b c d:Int):decide (cmpDots a b c d≥0)=!dotLess a b c d:=by
  unfold cmpDots cmpI dotLess
  by_cases h1:a<c
  · simp [h1]
  · by_cases h2:a>c
    · have:¬ a=c:=by omega
      simp [h1,h2,this]
    · have:a=c:=by omega
      subst this
      by_cases h3:b<d
      · simp [h3]
      · by_cases h4:b>d
        · simp [h3,h4]
        · simp [h3,h4]
theorem isData_is (t:ByteArray) (g:Bool):impl_isData.f t g=some (dataOk t g):=by
  unfold impl_isData.f dataOk
  by_cases h:(t.size:Int)≤16
  · have h':t.size≤16:=by omega
    rw [if_pos h]
    cases g with
    | true =>
      by_cases e:t.toList=[]
      · simp [h',e]
      · simp [h',e]
    | false=>simp [h']
  · have h':¬ t.size≤16:=by omega
    rw [if_neg h];simp [h']
theorem impl_SetRight_l0 (v:List Mark) (hv:v.length≤4611686018427387904) (l:List Sib) (hl:l.length≤1048576):∀ (s:List Sib) (i:Nat),l.drop i=s→i≤l.length →
    Ev (fun k=>impl_SetRight.l0 k l (l.length:Int) (i:Int) v l) (sibsFrom v (prevSib l i) s)
  | [],i,h,hi=>by
    have:=dropNil' h hi
    refine Ev.step (f:=fun _=>some true) (fun k=>?_) (by simp only [sibsFrom];exact Ev.now _)
    simp only [impl_SetRight.l0]
    rw [if_neg (by omega)]
  | x :: s,i,h,hi=>by
    obtain ⟨h1,h2,h3⟩:=dropCons h z91
    have hr:rd_T91 l (i:Int)=x:=by simpa [rd_T91] using h2
    have ih:=impl_SetRight_l0 v hv l hl s (i+1) h3 (by omega)
    rw [prevSib_succ h2] at ih
    have hj:∀ b:Bool,Ev (fun k=>impl_SetRight.j2 k l (l.length:Int) (i:Int) b v l) (!b && sibsFrom v (some x) s):=fun b=>by
      cases b with
      | true=>exact Ev.step (f:=fun _=>some false) (fun k=>by simp [impl_SetRight.j2]) (Ev.now _)
      | false=>exact Ev.step (fun k=>by simp only [impl_SetRight.j2];rw [if_neg (by simp),w64 (x:=(i:Int)+1) (by omega) (by omega)]) (by simpa using ih)
    have main:∀ (p:Bool) (g:Nat→Option Bool),Ev g (p && sibsFrom v (some x) s)→Ev (fun k=>(impl_isDot.f x.f0.f0 x.f0.f1).bind fun t=>if t=true then ((impl_seenHas.f k v x.f0.f0 x.f0.f1).bind fun t=>if t=true then ((impl_isData.f x.f2 x.f1).bind fun t=>if t=true then g k else impl_SetRight.j2 k l (l.length:Int) (i:Int) true v l) else impl_SetRight.j2 k l (l.length:Int) (i:Int) true v l) else impl_SetRight.j2 k l (l.length:Int) (i:Int) true v l) (sibOk v x && (p && sibsFrom v (some x) s)):=by
      intro p g hg
      unfold sibOk
      refine evBind1 (isDot_is _ _) ?_
      cases isDot x.f0.f0 x.f0.f1 with
      | false=>exact evNeg (by simp) (by simpa using hj true)
      | true =>
        refine evPos rfl (Ev.bind (seenHas_ev v _ _ hv) ?_)
        cases seenHas v x.f0.f0 x.f0.f1 with
        | false=>exact evNeg (by simp) (by simpa using hj true)
        | true =>
          refine evPos rfl (evBind1 (isData_is _ _) ?_)
          cases dataOk x.f2 x.f1 with
          | false=>exact evNeg (by simp) (by simpa using hj true)
          | true=>exact evPos rfl (by simpa using hg)
    by_cases hi0:i=0
    · have hp:prevSib l i=none:=by simp [prevSib,hi0]
      rw [hp]
      have h0:¬ ((i:Int)>0):=by omega
      refine Ev.step (fun k=>?_) (show Ev _ (sibsFrom v none (x :: s)) from by
        have:=main true _ (by simpa using hj false)
        simpa [sibsFrom] using this)
      simp only [impl_SetRight.l0,hr,if_neg h0]
      rw [if_pos (by omega),if_pos (by omega),if_pos (by omega)]
    · have hp:prevSib l i=some (l.getD (i-1) z91):=by simp [prevSib,hi0]
      rw [hp]
      generalize hy:l.getD (i-1) z91=y
      have hq:rd_T91 l ((i:Int)-1)=y:=by
        rw [← hy];simp only [rd_T91];congr 1;omega
      have h0:(i:Int)>0:=by omega
      have hw:wrap64 ((i:Int)-1)=(i:Int)-1:=w64 (by omega) (by omega)
      have hA:(0:Int)≤(i:Int)-1:=by omega
      have hB:(i:Int)-1<(l.length:Int):=by omega
      refine Ev.step (fun k=>?_) (show Ev _ (sibsFrom v (some y) (x :: s)) from by
        have:=main (dotLess y.f0.f0 y.f0.f1 x.f0.f0 x.f0.f1) (fun k=>(impl_compareDots.f k y.f0.f0 y.f0.f1 x.f0.f0 x.f0.f1).bind fun t=>impl_SetRight.j2 k l (l.length:Int) (i:Int) (decide (t≥0)) v l)
          (Ev.bind (compareDots_ev _ _ _ _) (by
            have:=hj (decide (cmpDots y.f0.f0 y.f0.f1 x.f0.f0 x.f0.f1≥0))
            rw [cmpDots_ge] at this ⊢
            simpa using this))
        simpa [sibsFrom] using this)
      simp only [impl_SetRight.l0,hr,if_pos h0,hw,if_pos hA,if_pos hB,hq]
      rw [if_pos (by omega),if_pos (by omega),if_pos (by omega)]
theorem impl_SetRight_ev (v:List Mark) (l:List Sib) (hv:v.length≤4611686018427387904) (hl:l.length≤1048576):Ev (fun k=>impl_SetRight.f k v l) (setOk v l):=by
  unfold impl_SetRight.f setOk
  refine Ev.bind (impl_seenRight_ev v hv) ?_
  cases seenOk v with
  | false=>exact evNeg (by simp) (Ev.step (f:=fun _=>some false) (fun k=>by simp [impl_SetRight.j0]) (Ev.now _))
  | true =>
    refine evPos rfl ?_
    by_cases h:l.length≤8
    · have hd:decide ((l.length:Int)>8)=false:=by simp;omega
      rw [hd]
      refine Ev.step (fun k=>by simp only [impl_SetRight.j0];rw [if_neg (by simp)]) ?_
      simpa [h,prevSib] using impl_SetRight_l0 v hv l hl l 0 rfl (by omega)
    · have hd:decide ((l.length:Int)>8)=true:=by simp;omega
      rw [hd]
      exact Ev.step (f:=fun _=>some false) (fun k=>by simp [impl_SetRight.j0]) (by simp [h];exact Ev.now _)
theorem spec_SetRight_l0 (v:List Mark) (hv:v.length≤4611686018427387904) (hk:seenOk v=true) (l:List Sib) (hl:l.length≤1048576):∀ (s:List Sib) (i:Nat),l.drop i=s→i≤l.length →
    Ev (fun k=>spec_SetRight.l0 k (i:Int) v l) (sibsFrom v (prevSib l i) s)
  | [],i,h,hi=>by
    have:=dropNil' h hi
    refine Ev.step (f:=fun _=>some true) (fun k=>?_) (by simp only [sibsFrom];exact Ev.now _)
    simp only [spec_SetRight.l0]
    rw [if_neg (by omega)]
  | x :: s,i,h,hi=>by
    obtain ⟨h1,h2,h3⟩:=dropCons h z91
    have hr:rd_T91 l (i:Int)=x:=by simpa [rd_T91] using h2
    have ih:=spec_SetRight_l0 v hv hk l hl s (i+1) h3 (by omega)
    rw [prevSib_succ h2] at ih
    have hj:∀ b:Bool,Ev (fun k=>if b=true then spec_SetRight.l0 k ((i:Int)+1) v l else some false) (b && sibsFrom v (some x) s):=fun b=>by
      cases b with
      | false=>exact evNeg (by simp) (Ev.now _)
      | true=>exact evPos rfl (by simpa using ih)
    have hi1:wrap64 ((i:Int)+1)=(i:Int)+1:=w64 (by omega) (by omega)
    have main:∀ (p:Bool) (g:Nat→Option Bool),Ev g (p && sibsFrom v (some x) s)→Ev (fun k=>(spec_SeenHas.f k v x.f0.f0 x.f0.f1).bind fun t=>if t=true then (if (x.f2.size:Int)>16 then some false else (if x.f1=true then (if x.f2.toList=([]:List UInt8) then g k else some false) else g k)) else some false) (sibOk v x && (p && sibsFrom v (some x) s)):=by
      intro p g hg
      have e:seenHasOut v x.f0.f0 x.f0.f1=(isDot x.f0.f0 x.f0.f1 && seenHas v x.f0.f0 x.f0.f1):=by simp [seenHasOut,hk]
      unfold sibOk
      rw [← Bool.and_assoc (isDot _ _),← e]
      refine Ev.bind (spec_SeenHas_ev v _ _ hv) ?_
      cases seenHasOut v x.f0.f0 x.f0.f1 with
      | false=>exact evNeg (by simp) (Ev.now _)
      | true =>
        refine evPos rfl ?_
        unfold dataOk
        by_cases hs:(x.f2.size:Int)>16
        · have hs':¬ x.f2.size≤16:=by omega
          exact evPos hs (by simpa [hs'] using Ev.now false)
        · have hs':x.f2.size≤16:=by omega
          refine evNeg hs ?_
          cases hg1:x.f1 with
          | false=>exact evNeg (by simp) (by simpa [hs'] using hg)
          | true =>
            refine evPos rfl ?_
            by_cases he:x.f2.toList=[]
            · exact evPos he (by simpa [hs',he] using hg)
            · exact evNeg he (by simpa [hs',he] using Ev.now false)
    by_cases hi0:i=0
    · have hp:prevSib l i=none:=by simp [prevSib,hi0]
      rw [hp]
      have h0:¬ ((i:Int)>0):=by omega
      refine Ev.step (fun k=>?_) (show Ev _ (sibsFrom v none (x :: s)) from by
        have:=main true (fun k=>spec_SetRight.l0 k ((i:Int)+1) v l) (by simpa using ih)
        simpa [sibsFrom] using this)
      simp only [spec_SetRight.l0,hr,if_neg h0,hi1]
      rw [if_pos (by omega),if_pos (by omega)]
    · have hp:prevSib l i=some (l.getD (i-1) z91):=by simp [prevSib,hi0]
      rw [hp]
      generalize hy:l.getD (i-1) z91=y
      have hq:rd_T91 l ((i:Int)-1)=y:=by
        rw [← hy];simp only [rd_T91];congr 1;omega
      have h0:(i:Int)>0:=by omega
      have hw:wrap64 ((i:Int)-1)=(i:Int)-1:=w64 (by omega) (by omega)
      have hA:(0:Int)≤(i:Int)-1:=by omega
      have hB:(i:Int)-1<(l.length:Int):=by omega
      refine Ev.step (fun k=>?_) (show Ev _ (sibsFrom v (some y) (x :: s)) from by
        have:=main (dotLess y.f0.f0 y.f0.f1 x.f0.f0 x.f0.f1) (fun k=>(spec_l03Less.f y.f0.f0 y.f0.f1 x.f0.f0 x.f0.f1).bind fun t=>if t=true then spec_SetRight.l0 k ((i:Int)+1) v l else some false)
          (evBind1 (l03Less_is _ _ _ _) (hj (dotLess y.f0.f0 y.f0.f1 x.f0.f0 x.f0.f1)))
        simpa [sibsFrom] using this)
      simp only [spec_SetRight.l0,hr,hi1,if_pos h0,hw,if_pos hA,if_pos hB,hq]
      rw [if_pos (by omega),if_pos (by omega)]
theorem spec_SetRight_ev (v:List Mark) (l:List Sib) (hv:v.length≤4611686018427387904) (hl:l.length≤1048576):Ev (fun k=>spec_SetRight.f k v l) (setOk v l):=by
  unfold spec_SetRight.f setOk
  refine Ev.bind (spec_SeenRight_ev v hv) ?_
  cases hk:seenOk v with
  | false=>exact evNeg (by simp) (Ev.step (f:=fun _=>some false) (fun k=>by simp [spec_SetRight.j0]) (Ev.now _))
  | true =>
    refine evPos rfl ?_
    by_cases h:l.length≤8
    · have hd:decide ((l.length:Int)>8)=false:=by simp;omega
      rw [hd]
      refine Ev.step (fun k=>by simp only [spec_SetRight.j0];rw [if_neg (by simp)]) ?_
      simpa [h,prevSib] using spec_SetRight_l0 v hv hk l hl l 0 rfl (by omega)
    · have hd:decide ((l.length:Int)>8)=true:=by simp;omega
      rw [hd]
      exact Ev.step (f:=fun _=>some false) (fun k=>by simp [spec_SetRight.j0]) (by simp [h];exact Ev.now _)
end Go.Proofs.Ytphbgcfpcadabaa.Q

namespace Go.Proofs.Ytphbgcfpcadabaa.Q
open Go.RowKit Go.Proofs.Ytphbgcfpcadabaa.P Go.Proofs.YtphbgcfpcadabaaW.PrintWords Go.Proofs.YtphbgcfpcadabaaW.PrintMore

abbrev LSib:=S107
def toSib (x:LSib):Sib:=⟨toMark x.f0,x.f1,x.f2⟩
theorem szSib_is (a b:Int) (c:Bool) (t:ByteArray) (n:Int) (h0:0≤n) (h1:n≤1048576) (ht:t.size≤9223372036854775807) :
    laws_szSib.f a b c t n=some (if n<(t.size:Int) then -1 else n-(t.size:Int)):=by
  unfold laws_szSib.f
  rw [w64 (by omega) (by omega)]
  split
  · rw [if_pos (by omega)]
  · rw [if_neg (by omega)]
theorem szSibS_l0 (l:List LSib) (hl:l.length≤1048576) (hx:∀ x ∈ l,x.f2.size≤9223372036854775807):∀ (s:List LSib) (i:Nat),l.drop i=s→i≤l.length→∀ n:Int,0≤n→n≤1048576 →
    ∃ r,Ev (fun k=>laws_szSibS.l0 k l n (i:Int)) r∧r≤n∧(0≤r→∀ x ∈ s,(x.f2.size:Int)≤n)
  | [],i,h,hi,n,h0,h1=>by
    have:=dropNil' h hi
    refine ⟨n,Ev.step (f:=fun _=>some n) (fun k=>?_) (Ev.now _),by omega,by simp⟩
    simp only [laws_szSibS.l0]
    rw [if_neg (by omega)]
  | m :: s,i,h,hi,n,h0,h1=>by
    obtain ⟨g1,g2,g3⟩:=dropCons h z107
    have hr:rd_T107 l (i:Int)=m:=by simpa [rd_T107] using g2
    have hm:m ∈ l:=List.mem_of_mem_drop (by rw [h];exact List.mem_cons_self)
    have e:=szSib_is m.f0.f0 m.f0.f1 m.f1 m.f2 n h0 h1 (hx m hm)
    by_cases hn:n<(m.f2.size:Int)
    · rw [if_pos hn] at e
      refine ⟨-1,Ev.step (f:=fun _=>some (-1)) (fun k=>?_) (Ev.now _),by omega,by omega⟩
      simp only [laws_szSibS.l0,hr,e,Option.bind_some]
      rw [if_pos (by omega),if_pos (by omega),if_pos (by omega)]
    · rw [if_neg hn] at e
      obtain ⟨r,e1,e2,e3⟩:=szSibS_l0 l hl hx s (i+1) g3 (by omega) (n-(m.f2.size:Int)) (by omega) (by omega)
      refine ⟨r,Ev.step (fun k=>?_) e1,by omega,fun hr0 x hxm=>?_⟩
      · simp only [laws_szSibS.l0,hr,e,Option.bind_some]
        rw [if_pos (by omega),if_pos (by omega),if_neg (by omega),w64 (by omega) (by omega)]
        rfl
      · rcases List.mem_cons.1 hxm with rfl | hxm
        · omega
        · have:=e3 hr0 x hxm;omega
theorem szSibS_ev (l:List LSib) (hl:l.length≤9223372036854775807) (hx:∀ x ∈ l,x.f2.size≤9223372036854775807) (n:Int) (h0:0≤n) (h1:n≤1048576) :
    ∃ r,Ev (fun k=>laws_szSibS.f k l n) r∧r≤n∧(0≤r→(l.length:Int)≤n∧∀ x ∈ l,(x.f2.size:Int)≤n):=by
  unfold laws_szSibS.f
  rw [w64 (by omega) (by omega)]
  by_cases h:n-(l.length:Int)<0
  · exact ⟨-1,evPos h (Ev.now _),by omega,by omega⟩
  · obtain ⟨r,e1,e2,e3⟩:=szSibS_l0 l (by omega) hx l 0 rfl (by omega) (n-(l.length:Int)) (by omega) (by omega)
    exact ⟨r,evNeg h e1,by omega,fun h0=>⟨by omega,fun x hx=>by have:=e3 h0 x hx;omega⟩⟩
theorem szSet_ev (v:List LMark) (l:List LSib) (hv:v.length≤9223372036854775807) (hl:l.length≤9223372036854775807) (hx:∀ x ∈ l,x.f2.size≤9223372036854775807) (n:Int) (h0:0≤n) (h1:n≤1048576) :
    ∃ r,Ev (fun k=>laws_szSet.f k v l n) r∧r≤n∧(0≤r→v.length≤1048576∧l.length≤1048576∧∀ x ∈ l,x.f2.size≤1048576):=by
  unfold laws_szSet.f
  rw [szMarkS_is v n h0 h1 hv]
  simp only [Option.bind_some]
  by_cases h:n<(v.length:Int)
  · rw [if_pos h]
    exact ⟨-1,evPos (by omega) (Ev.now _),by omega,by omega⟩
  · rw [if_neg h]
    obtain ⟨r,e1,e2,e3⟩:=szSibS_ev l hl hx (n-(v.length:Int)) (by omega) (by omega)
    by_cases hr:r<0
    · exact ⟨-1,evNeg (by omega) (Ev.bind e1 (evPos hr (Ev.now _))),by omega,by omega⟩
    · refine ⟨r,evNeg (by omega) (Ev.bind e1 (evNeg hr (Ev.now _))),by omega,fun h0=>?_⟩
      obtain ⟨g1,g2⟩:=e3 h0
      exact ⟨by omega,by omega,fun x hx=>by have:=g2 x hx;omega⟩
theorem toSibS_l0 (l:List LSib) (hl:l.length≤1048576):∀ (s:List LSib) (i:Nat),l.drop i=s→i≤l.length→∀ (acc:List Sib),acc.length=l.length→acc.take i=(l.take i).map toSib →
    Ev (fun k=>laws_toSibS.l0 k l acc (i:Int)) (l.map toSib)
  | [],i,h,hi,acc,ha,hc=>by
    have:=dropNil' h hi
    refine Ev.step (f:=fun _=>some (l.map toSib)) (fun k=>?_) (Ev.now _)
    simp only [laws_toSibS.l0]
    rw [if_neg (by omega)]
    rw [← this,List.take_of_length_le (by omega),List.take_length] at hc
    rw [hc]
  | m :: s,i,h,hi,acc,ha,hc=>by
    obtain ⟨h1,h2,h3⟩:=dropCons h z107
    have hr:rd_T107 l (i:Int)=m:=by simpa [rd_T107] using h2
    have hm:l[i]'h1=m:=by
      rw [List.getD_eq_getElem?_getD,List.getElem?_eq_getElem h1] at h2;exact h2
    refine Ev.step (fun k=>?_) (toSibS_l0 l hl s (i+1) h3 (by omega) (acc.set i (toSib m)) (by simpa using ha) (by
      rw [List.take_succ_eq_append_getElem (by simp;omega),List.take_succ_eq_append_getElem h1,List.map_append,List.take_set_of_le (by omega),hc]
      simp [hm]))
    simp only [laws_toSibS.l0,laws_toSib.f,laws_toMark.f,hr,Option.bind_some,Int.toNat_natCast]
    rw [if_pos (by omega),if_pos (by omega),if_pos (by omega),w64 (by omega) (by omega)]
    rfl
theorem toSibS_ev (l:List LSib) (hl:l.length≤1048576):Ev (fun k=>laws_toSibS.f k l) (l.map toSib):=by
  unfold laws_toSibS.f
  refine evPos (by omega) (evPos (by omega) ?_)
  exact toSibS_l0 l hl l 0 rfl (by omega) _ (by simp) (by simp)
theorem toSet_ev (v:List LMark) (l:List LSib) (hv:v.length≤1048576) (hl:l.length≤1048576):Ev (fun k=>laws_toSet.f k v l) (v.map toMark,l.map toSib) :=
  Ev.bind (toMarkS_ev v hv) (Ev.bind (toSibS_ev l hl) (Ev.now _))
theorem eqSib_refl (a b:Int) (c:Bool) (t:ByteArray):laws_eqSib.f a b c t a b c t=some true:=by simp [laws_eqSib.f,eqMark_refl]
theorem eqSibS_l0 (l:List Sib) (hl:l.length≤4611686018427387904):∀ (s:List Sib) (i:Nat),l.drop i=s→i≤l.length →
    Ev (fun k=>laws_eqSibS.l0 k l l (i:Int)) true
  | [],i,h,hi=>by
    have:=dropNil' h hi
    refine Ev.step (f:=fun _=>some true) (fun k=>?_) (Ev.now _)
    simp only [laws_eqSibS.l0]
    rw [if_neg (by omega)]
  | m :: s,i,h,hi=>by
    obtain ⟨h1,h2,h3⟩:=dropCons h z91
    refine Ev.step (fun k=>?_) (eqSibS_l0 l hl s (i+1) h3 (by omega))
    simp only [laws_eqSibS.l0,eqSib_refl,Option.bind_some]
    rw [if_pos (by omega),if_pos (by omega),if_pos (by omega),if_pos trivial,w64 (by omega) (by omega)]
    rfl
theorem eqSibS_ev (l:List Sib) (hl:l.length≤4611686018427387904):Ev (fun k=>laws_eqSibS.f k l l) true:=by
  unfold laws_eqSibS.f
  exact evPos rfl (eqSibS_l0 l hl l 0 rfl (by omega))
theorem eqSet_ev (v:List Mark) (l:List Sib) (hv:v.length≤4611686018427387904) (hl:l.length≤4611686018427387904):Ev (fun k=>laws_eqSet.f k v l v l) true :=
  Ev.bind (eqMarkS_ev v hv) (evPos rfl (Ev.bind (eqSibS_ev l hl) (evPos rfl (Ev.now _))))
end Go.Proofs.Ytphbgcfpcadabaa.Q

namespace Go.Proofs.Ytphbgcfpcadabaa.Q
open Go.RowKit Go.Proofs.Ytphbgcfpcadabaa.P Go.Proofs.YtphbgcfpcadabaaW.PrintWords Go.Proofs.YtphbgcfpcadabaaW.PrintMore

theorem markText_l0:∀ (m:Nat) (n:Int),n.toNat≤m→0≤n→∀ t:ByteArray,(t.size:Int)+n+1≤9223372036854775807→∃ r,Ev (fun k=>laws_markText.l0 k n t) r
  | 0,n,hm,h0,t,ht=>by
    refine ⟨(⟨#[109]⟩:ByteArray) ++ t,Ev.step (f:=fun _=>some ((⟨#[109]⟩:ByteArray) ++ t)) (fun k=>?_) (Ev.now _)⟩
    simp only [laws_markText.l0]
    rw [if_neg (by omega),if_pos (by omega)]
  | m+1,n,hm,h0,t,ht=>by
    by_cases hn:n>0
    · have hs:(strOfNums [(wrap64 (48+(Int.tmod n 10))) % 256]).size=1:=rfl
      have e:Int.tdiv n 10=n / 10:=Int.tdiv_eq_ediv_of_nonneg h0
      obtain ⟨r,hr⟩:=markText_l0 m (n / 10) (by omega) (by omega) (strOfNums [(wrap64 (48+(Int.tmod n 10))) % 256] ++ t) (by rw [ByteArray.size_append,hs];omega)
      refine ⟨r,Ev.step (fun k=>?_) hr⟩
      simp only [laws_markText.l0,Option.bind_some]
      rw [if_pos hn,if_pos (by rw [hs];omega),e,w64 (x:=n / 10) (by omega) (by omega)]
    · refine ⟨(⟨#[109]⟩:ByteArray) ++ t,Ev.step (f:=fun _=>some ((⟨#[109]⟩:ByteArray) ++ t)) (fun k=>?_) (Ev.now _)⟩
      simp only [laws_markText.l0]
      rw [if_neg hn,if_pos (by omega)]
theorem markText_is (n:Int) (h1:n≤1152921504606846976):∃ r,Ev (fun k=>laws_markText.f k n) r:=by
  unfold laws_markText.f
  by_cases h:n≤0
  · exact ⟨_,evPos h (Ev.now _)⟩
  · obtain ⟨r,hr⟩:=markText_l0 n.toNat n (by omega) (by omega) ⟨#[]⟩ (by show (0:Int)+n+1≤_;omega)
    exact ⟨r,evNeg h hr⟩
open Classical in
noncomputable def markT (n:Int):ByteArray:=if h:∃ r,Ev (fun k=>laws_markText.f k n) r then h.choose else ⟨#[]⟩
theorem markT_ev (n:Int) (h1:n≤1152921504606846976):Ev (fun k=>laws_markText.f k n) (markT n):=by
  have h:=markText_is n h1
  unfold markT
  rw [dif_pos h]
  exact h.choose_spec
noncomputable def markSL:Int→List Sib→List Sib
  | _,[]=>[]
  | n,_ :: r=>⟨⟨n,n+1⟩,(Int.tmod (n+2) 3) == 0,markT (n+3)⟩ :: markSL (n+4) r
theorem markSibS_l0 (N:Int) (hN:N≤1152921504606846976):∀ (s pre:List Sib) (n:Int),0≤n→n+4*(s.length:Int)≤N→(pre.length:Int)+s.length≤N →
    Ev (fun k=>laws_markSibS.l0 k (pre ++ s) n (pre.length:Int)) (n+4*(s.length:Int),pre ++ markSL n s)
  | [],pre,n,h0,h1,h2=>by
    refine Ev.step (f:=fun _=>some (n,pre)) (fun k=>?_) (by simp [markSL];exact Ev.now _)
    simp only [laws_markSibS.l0,List.append_nil]
    rw [if_neg (by omega)]
  | x :: s,pre,n,h0,h1,h2=>by
    simp only [List.length_cons] at h1 h2
    have ih:=markSibS_l0 N hN s (pre ++ [⟨⟨n,n+1⟩,(Int.tmod (n+2) 3) == 0,markT (n+3)⟩]) (n+4) (by omega) (by omega) (by simp;omega)
    simp only [List.length_append,List.length_cons,List.length_nil,List.append_assoc,List.cons_append,List.nil_append] at ih
    have w1:wrap64 (n+1)=n+1:=w64 (by omega) (by omega)
    have w2:wrap64 (n+1+1)=n+2:=by rw [w64 (by omega) (by omega)];omega
    have w3:wrap64 (n+2+1)=n+3:=by rw [w64 (by omega) (by omega)];omega
    have w4:wrap64 (n+3+1)=n+4:=by rw [w64 (by omega) (by omega)];omega
    refine Ev.step (f:=fun k=>(laws_markText.f k (n+3)).bind fun t=>laws_markSibS.l0 k (pre ++ ⟨⟨n,n+1⟩,(Int.tmod (n+2) 3) == 0,t⟩ :: s) (n+4) ((pre.length+(0+1):Nat):Int)) (fun k=>?_) (show Ev _ (n+4*((x :: s).length:Int),pre ++ markSL n (x :: s)) from by
      simp only [markSL,List.length_cons]
      rw [show n+4*((s.length+1:Nat):Int)=n+4+4*(s.length:Int) from by omega]
      exact Ev.bind (markT_ev (n+3) (by omega)) ih)
    simp only [laws_markSibS.l0,Option.bind_some,Int.toNat_natCast,rd_T91,set_mid,getD_mid,w1,w2,w3,w4]
    rw [if_pos (by simp;omega),if_pos (by omega),w64 (x:=(pre.length:Int)+1) (by omega) (by omega)]
    rfl
theorem markSibS_ev (s:List Sib) (n:Int) (h0:0≤n) (h1:n+4*(s.length:Int)≤1152921504606846976):Ev (fun k=>laws_markSibS.f k s n) (n+4*(s.length:Int),markSL n s) :=
  markSibS_l0 1152921504606846976 (Int.le_refl _) s [] n h0 h1 (by simp;omega)
theorem markSet_ev (v:List Mark) (l:List Sib) (n:Int) (h0:0≤n) (h1:n+2*(v.length:Int)+4*(l.length:Int)≤1152921504606846976) :
    Ev (fun k=>laws_markSet.f k v l n) (n+2*(v.length:Int)+4*(l.length:Int),markL n v,markSL (n+2*(v.length:Int)) l) :=
  Ev.bind (markMarkS_ev v n h0 (by omega)) (Ev.bind (markSibS_ev l _ (by omega) h1) (Ev.now _))
end Go.Proofs.Ytphbgcfpcadabaa.Q

namespace Go.Proofs.Ytphbgcfpcadabaa.Q
open Go.RowKit Go.Proofs.Ytphbgcfpcadabaa.P Go.Proofs.YtphbgcfpcadabaaW.PrintWords Go.Proofs.YtphbgcfpcadabaaW.PrintMore

theorem heldSibS_l0 (N:Int) (hN:N≤1152921504606846976):∀ (s pre:List Sib) (n:Int),0≤n→n+4*(s.length:Int)≤N→(pre.length:Int)+s.length≤N →
    Ev (fun k=>laws_heldSibS.l0 k (pre ++ markSL n s) n (pre.length:Int)) (n+4*(s.length:Int))
  | [],pre,n,h0,h1,h2=>by
    refine Ev.step (f:=fun _=>some n) (fun k=>?_) (by simp;exact Ev.now _)
    simp only [laws_heldSibS.l0,markSL,List.append_nil]
    rw [if_neg (by omega)]
  | x :: s,pre,n,h0,h1,h2=>by
    simp only [List.length_cons] at h1 h2
    have ih:=heldSibS_l0 N hN s (pre ++ [⟨⟨n,n+1⟩,(Int.tmod (n+2) 3) == 0,markT (n+3)⟩]) (n+4) (by omega) (by omega) (by simp;omega)
    simp only [List.length_append,List.length_cons,List.length_nil,List.append_assoc,List.cons_append,List.nil_append] at ih
    have hr:rd_T91 (pre ++ markSL n (x :: s)) (pre.length:Int)=⟨⟨n,n+1⟩,(Int.tmod (n+2) 3) == 0,markT (n+3)⟩:=by simp only [rd_T91,Int.toNat_natCast,markSL,getD_mid]
    have w1:wrap64 (n+1)=n+1:=w64 (by omega) (by omega)
    have w2:wrap64 (n+1+1)=n+2:=by rw [w64 (by omega) (by omega)];omega
    have w3:wrap64 (n+2+1)=n+3:=by rw [w64 (by omega) (by omega)];omega
    have w4:wrap64 (n+3+1)=n+4:=by rw [w64 (by omega) (by omega)];omega
    refine Ev.step (f:=fun k=>(laws_markText.f k (n+3)).bind fun t=>if (markT (n+3)).toList=t.toList then laws_heldSibS.l0 k (pre ++ markSL n (x :: s)) (n+4) ((pre.length+(0+1):Nat):Int) else none) (fun k=>?_) (show Ev _ (n+4*((x :: s).length:Int)) from by
      simp only [List.length_cons]
      rw [show n+4*((s.length+1:Nat):Int)=n+4+4*(s.length:Int) from by omega]
      exact Ev.bind (markT_ev (n+3) (by omega)) (evPos rfl ih))
    simp only [laws_heldSibS.l0,hr,w1,w2,w3,w4]
    rw [if_pos (by simp [markSL];omega),if_pos (by omega),if_pos trivial,if_pos trivial,if_neg (by simp),w64 (x:=(pre.length:Int)+1) (by omega) (by omega)]
    rfl
theorem heldSibS_ev (s:List Sib) (n:Int) (h0:0≤n) (h1:n+4*(s.length:Int)≤1152921504606846976):Ev (fun k=>laws_heldSibS.f k (markSL n s) n) (n+4*(s.length:Int)) :=
  heldSibS_l0 1152921504606846976 (Int.le_refl _) s [] n h0 h1 (by simp;omega)
theorem heldSet_ev (v:List Mark) (l:List Sib) (n:Int) (h0:0≤n) (h1:n+2*(v.length:Int)+4*(l.length:Int)≤1152921504606846976) :
    Ev (fun k=>laws_heldSet.f k (markL n v) (markSL (n+2*(v.length:Int)) l) n) (n+2*(v.length:Int)+4*(l.length:Int)) :=
  Ev.bind (heldMarkS_ev v n h0 (by omega)) (evNeg (by omega) (Ev.bind (heldSibS_ev l _ (by omega) h1) (evNeg (by omega) (Ev.now _))))
theorem eqSetOut_ev (v:List Mark) (l:List Sib) (a b c:Int) (hv:v.length≤4611686018427387904) (hl:l.length≤4611686018427387904):Ev (fun k=>laws_eqSetOut.f k v l a b c v l a b c) true :=
  Ev.bind (eqSet_ev v l hv hl) (evPos rfl (evBind1 (eqMark_refl a b) (evPos rfl (evPos rfl (Ev.now _)))))
theorem markSetOut_ev (v:List Mark) (l:List Sib) (a b c n:Int) (h0:0≤n) (h1:n+2*(v.length:Int)+4*(l.length:Int)≤1152921504606846976) :
    Ev (fun k=>laws_markSetOut.f k v l a b c n) (n+2*(v.length:Int)+4*(l.length:Int),markL n v,markSL (n+2*(v.length:Int)) l) :=
  Ev.bind (markSet_ev v l n h0 h1) (Ev.now _)
theorem heldSetOut_ev (v:List Mark) (l:List Sib) (a b c n:Int) (h0:0≤n) (h1:n+2*(v.length:Int)+4*(l.length:Int)≤1152921504606846976) :
    Ev (fun k=>laws_heldSetOut.f k (markL n v) (markSL (n+2*(v.length:Int)) l) a b c n) (n+2*(v.length:Int)+4*(l.length:Int)) :=
  Ev.bind (heldSet_ev v l n h0 h1) (evNeg (by omega) (Ev.now _))
end Go.Proofs.Ytphbgcfpcadabaa.Q

namespace Go.Proofs.Ytphbgcfpcadabaa.P
open Go.RowKit Go.Proofs.YtphbgcfpcadabaaW.PrintWords Go.Proofs.YtphbgcfpcadabaaW.PrintLast Go.Proofs.YtphbgcfpcadabaaW.PrintMore
attribute [local go_sem] max2_int min2_int max_two min_two max_three min_three max_four min_four   -- for this text's walks alone
set_option linter.unusedVariables false
set_option linter.unusedSimpArgs false

theorem eqA56 (d:Nat) (w:World) (x0 y0:Int) (x1 y1:Int) :
  (Op.equalIn (d+2) 56 (.agg #[.int .i64 x0,.int .i64 x1]) (.agg #[.int .i64 y0,.int .i64 y1])).run Try.prog w = .ok (x0 == y0 && (x1 == y1)) w:=by
 refine eqA_of Try.underlying56 (by kernel_rfl) ?_
 refine eqf_cons (by rfl) (by go_simp;rfl) (by go_simp;rfl) (by go_simp) ?_
 exact eqf_last (by rfl) (by go_simp;rfl) (by go_simp;rfl) (by go_simp)

attribute [local go_sem high] eqA56
/-! ### spec_l03At: function 93 -/
def spec_l03At.l0:Nat→List (S91)→Int→Int→Int→Option (Int)
 | 0,_,_,_,_=>none
 | k+1,x0,x5,x545000,x545001=>if x5<(x0.length:Int) then (if 0≤x5 then (if (((rd_T91 x0 x5).f0.f0) == x545000 && (((rd_T91 x0 x5).f0.f1) == x545001))=true then (some x5) else (spec_l03At.l0 k x0 (wrap64 (x5+1)) x545000 x545001)) else (none)) else (some (-1))
def spec_l03At.f (k:Nat) (l0:List (S91)) (a1_0:Int) (a1_1:Int):Option (Int):=spec_l03At.l0 k l0 0 a1_0 a1_1
theorem spec_l03At.mono_l:∀ k,(∀ y0 y1 y2 y3,LeO (spec_l03At.l0 k y0 y1 y2 y3) (spec_l03At.l0 (k+1) y0 y1 y2 y3))
 | 0=>fun _ _ _ _ r h=>by simp [spec_l03At.l0] at h
 | k+1=>by
  have ih0:=spec_l03At.mono_l k
  ·intro y0 y1 y2 y3
   unfold spec_l03At.l0
   repeat' first
   | (with_reducible exact ih0 _ _ _ _)
   | (with_reducible exact LeO.refl _)
   | (with_reducible exact LeO.none _)
   | (with_reducible refine LeO.ite ?_ ?_)
   | (with_reducible refine LeO.bind ?_ (fun _=>?_))
   | exact ih0 _ _ _ _
   | exact LeO.none _
   | refine LeO.ite ?_ ?_
   | refine LeO.bind ?_ (fun _=>?_)
theorem spec_l03At.mono:∀ a0 a1 a2 k,LeO (spec_l03At.f k a0 a1 a2) (spec_l03At.f (k+1) a0 a1 a2):=by
 intro a0 a1 a2 k
 have ih0:=spec_l03At.mono_l k
 unfold spec_l03At.f
 repeat' first
   | (with_reducible exact ih0 _ _ _ _)
   | (with_reducible exact LeO.refl _)
   | (with_reducible exact LeO.none _)
   | (with_reducible refine LeO.ite ?_ ?_)
   | (with_reducible refine LeO.bind ?_ (fun _=>?_))
   | exact ih0 _ _ _ _
   | exact LeO.none _
   | refine LeO.ite ?_ ?_
   | refine LeO.bind ?_ (fun _=>?_)

attribute [local go_sem high] eqA56
/-! ### impl_Set_sib_1_cap: function 96 -/
def impl_Set_sib_1_cap.f (a0_0:Int) (a0_1:Int) (a0_2:Bool) (a0_3:ByteArray) (a1_0:Int) (a1_1:Int):Option (Bool):=some (a0_0 == a1_0 && (a0_1 == a1_1))

/-! ### slices_IndexFunc_impl_Sib_impl_Sib_impl_Set_sib_1: function 95 -/
def slices_IndexFunc_impl_Sib_impl_Sib_impl_Set_sib_1.l0:Nat→List (S91)→Int→Int→Int→Int→Option (Int)
 | 0,_,_,_,_,_=>none
 | k+1,x0,x7,x8,x62000,x62001=>if x8<x7 then (if 0≤x8 then (if x8<(x0.length:Int) then ((impl_Set_sib_1_cap.f ((rd_T91 x0 x8).f0.f0) ((rd_T91 x0 x8).f0.f1) ((rd_T91 x0 x8).f1) ((rd_T91 x0 x8).f2) x62000 x62001).bind fun t608=>(if t608=true then (some x8) else (slices_IndexFunc_impl_Sib_impl_Sib_impl_Set_sib_1.l0 k x0 x7 (wrap64 (x8+1)) x62000 x62001))) else (none)) else (none)) else (some (-1))
def slices_IndexFunc_impl_Sib_impl_Sib_impl_Set_sib_1.f (k:Nat) (l0:List (S91)) (a1_0:Int) (a1_1:Int):Option (Int):=slices_IndexFunc_impl_Sib_impl_Sib_impl_Set_sib_1.l0 k l0 (l0.length:Int) 0 a1_0 a1_1
theorem slices_IndexFunc_impl_Sib_impl_Sib_impl_Set_sib_1.mono_l:∀ k,(∀ y0 y1 y2 y3 y4,LeO (slices_IndexFunc_impl_Sib_impl_Sib_impl_Set_sib_1.l0 k y0 y1 y2 y3 y4) (slices_IndexFunc_impl_Sib_impl_Sib_impl_Set_sib_1.l0 (k+1) y0 y1 y2 y3 y4))
 | 0=>fun _ _ _ _ _ r h=>by simp [slices_IndexFunc_impl_Sib_impl_Sib_impl_Set_sib_1.l0] at h
 | k+1=>by
  have ih0:=slices_IndexFunc_impl_Sib_impl_Sib_impl_Set_sib_1.mono_l k
  ·intro y0 y1 y2 y3 y4
   unfold slices_IndexFunc_impl_Sib_impl_Sib_impl_Set_sib_1.l0
   repeat' first
   | (with_reducible exact ih0 _ _ _ _ _)
   | (with_reducible exact LeO.refl _)
   | (with_reducible exact LeO.none _)
   | (with_reducible refine LeO.ite ?_ ?_)
   | (with_reducible refine LeO.bind ?_ (fun _=>?_))
   | exact ih0 _ _ _ _ _
   | exact LeO.none _
   | refine LeO.ite ?_ ?_
   | refine LeO.bind ?_ (fun _=>?_)
theorem slices_IndexFunc_impl_Sib_impl_Sib_impl_Set_sib_1.mono:∀ a0 a1 a2 k,LeO (slices_IndexFunc_impl_Sib_impl_Sib_impl_Set_sib_1.f k a0 a1 a2) (slices_IndexFunc_impl_Sib_impl_Sib_impl_Set_sib_1.f (k+1) a0 a1 a2):=by
 intro a0 a1 a2 k
 have ih0:=slices_IndexFunc_impl_Sib_impl_Sib_impl_Set_sib_1.mono_l k
 unfold slices_IndexFunc_impl_Sib_impl_Sib_impl_Set_sib_1.f
 repeat' first
   | (with_reducible exact ih0 _ _ _ _ _)
   | (with_reducible exact LeO.refl _)
   | (with_reducible exact LeO.none _)
   | (with_reducible refine LeO.ite ?_ ?_)
   | (with_reducible refine LeO.bind ?_ (fun _=>?_))
   | exact ih0 _ _ _ _ _
   | exact LeO.none _
   | refine LeO.ite ?_ ?_
   | refine LeO.bind ?_ (fun _=>?_)

/-! ### impl_Set_sib: function 63 -/
def impl_Set_sib.f (k:Nat) (l0_0:List (S56)) (l0_1:List (S91)) (a1_0:Int) (a1_1:Int):Option (Int):=(slices_IndexFunc_impl_Sib_impl_Sib_impl_Set_sib_1.f k l0_1 a1_0 a1_1).bind fun t611=>(some t611)
theorem impl_Set_sib.mono:∀ a0 a1 a2 a3 k,LeO (impl_Set_sib.f k a0 a1 a2 a3) (impl_Set_sib.f (k+1) a0 a1 a2 a3):=by
 intro a0 a1 a2 a3 k
 unfold impl_Set_sib.f
 repeat' first
   | (with_reducible exact slices_IndexFunc_impl_Sib_impl_Sib_impl_Set_sib_1.mono _ _ _ _)
   | (with_reducible exact LeO.refl _)
   | (with_reducible exact LeO.none _)
   | (with_reducible refine LeO.ite ?_ ?_)
   | (with_reducible refine LeO.bind ?_ (fun _=>?_))
   | exact slices_IndexFunc_impl_Sib_impl_Sib_impl_Set_sib_1.mono _ _ _ _
   | exact LeO.none _
   | refine LeO.ite ?_ ?_
   | refine LeO.bind ?_ (fun _=>?_)
end Go.Proofs.Ytphbgcfpcadabaa.P

namespace Go.Proofs.Ytphbgcfpcadabaa.Q
open Go.RowKit Go.Proofs.Ytphbgcfpcadabaa.P Go.Proofs.YtphbgcfpcadabaaW.PrintWords Go.Proofs.YtphbgcfpcadabaaW.PrintMore

def isAt (x:Sib) (a b:Int):Bool:=x.f0.f0 == a && x.f0.f1 == b
/-- The place of a dot, from place i on; -1 if it's nowhere. -/
def sibAt (a b:Int):Int→List Sib→Int
  | _,[] => -1
  | i,x :: r=>if isAt x a b=true then i else sibAt a b (i+1) r
theorem sibsFrom_mem (v:List Mark):∀ (s:List Sib) (p:Option Sib),sibsFrom v p s=true→∀ x ∈ s,sibOk v x=true
  | [],_,_,x,hx=>by simp at hx
  | y :: r,p,h,x,hx=>by
    have h2:sibOk v y=true∧sibsFrom v (some y) r=true:=by
      cases p with
      | none=>simpa [sibsFrom] using h
      | some z =>
        simp only [sibsFrom,Bool.and_eq_true] at h
        exact ⟨h.1,h.2.2⟩
    rcases List.mem_cons.1 hx with rfl | hx
    · exact h2.1
    · exact sibsFrom_mem v r _ h2.2 x hx
theorem setOk_iff (v:List Mark) (l:List Sib):setOk v l=true ↔ seenOk v=true∧l.length≤8∧sibsFrom v none l=true:=by
  simp [setOk]
end Go.Proofs.Ytphbgcfpcadabaa.Q

namespace Go.Proofs.Ytphbgcfpcadabaa.P
open Go.RowKit Go.Proofs.YtphbgcfpcadabaaW.PrintWords Go.Proofs.YtphbgcfpcadabaaW.PrintLast Go.Proofs.YtphbgcfpcadabaaW.PrintMore
attribute [local go_sem] max2_int min2_int max_two min_two max_three min_three max_four min_four   -- for this text's walks alone
set_option linter.unusedVariables false
set_option linter.unusedSimpArgs false

/-! ### spec_l03Sync: function 61 -/
mutual
def spec_l03Sync.l0:Nat→Int→List (S56)→List (S91)→List (S56)→List (S91)→List (S56)→List (S91)→Option ((List (S56)) × (List (S91)) × Int × Int × Int)
 | 0,_,_,_,_,_,_,_=>none
 | k+1,x6,x547000,x547001,x548000,x548001,x553000,x553001=>if x6<(x547001.length:Int) then (if 0≤x6 then ((spec_l03At.f k x548001 ((rd_T91 x547001 x6).f0.f0) ((rd_T91 x547001 x6).f0.f1)).bind fun t554=>(if t554≥0 then (spec_l03Sync.j1 k x6 true x547000 x547001 x548000 x548001 x553000 x553001) else ((spec_SeenHas.f k x548000 ((rd_T91 x547001 x6).f0.f0) ((rd_T91 x547001 x6).f0.f1)).bind fun t556=>(spec_l03Sync.j1 k x6 (!t556) x547000 x547001 x548000 x548001 x553000 x553001)))) else (none)) else (spec_l03Sync.l1 k 0 x547000 x547001 x548000 x548001 x553000 x553001)
def spec_l03Sync.j1:Nat→Int→Bool→List (S56)→List (S91)→List (S56)→List (S91)→List (S56)→List (S91)→Option ((List (S56)) × (List (S91)) × Int × Int × Int)
 | 0,_,_,_,_,_,_,_,_=>none
 | k+1,x6,x42,x547000,x547001,x548000,x548001,x553000,x553001=>if x42=true then (if 0≤x6 then (if x6<(x547001.length:Int) then ((spec_l03In.f k x553001 ((rd_T91 x547001 x6).f0.f0) ((rd_T91 x547001 x6).f0.f1) ((rd_T91 x547001 x6).f1) ((rd_T91 x547001 x6).f2)).bind fun t558=>(spec_l03Sync.l0 k (wrap64 (x6+1)) x547000 x547001 x548000 x548001 x553000 t558)) else (none)) else (none)) else (spec_l03Sync.l0 k (wrap64 (x6+1)) x547000 x547001 x548000 x548001 x553000 x553001)
def spec_l03Sync.l1:Nat→Int→List (S56)→List (S91)→List (S56)→List (S91)→List (S56)→List (S91)→Option ((List (S56)) × (List (S91)) × Int × Int × Int)
 | 0,_,_,_,_,_,_,_=>none
 | k+1,x7,x547000,x547001,x548000,x548001,x553000,x553001=>if x7<(x548001.length:Int) then (if 0≤x7 then ((spec_l03At.f k x547001 ((rd_T91 x548001 x7).f0.f0) ((rd_T91 x548001 x7).f0.f1)).bind fun t562=>(if t562<0 then ((spec_SeenHas.f k x547000 ((rd_T91 x548001 x7).f0.f0) ((rd_T91 x548001 x7).f0.f1)).bind fun t564=>(spec_l03Sync.j3 k x7 (!t564) x547000 x547001 x548000 x548001 x553000 x553001)) else (spec_l03Sync.j3 k x7 false x547000 x547001 x548000 x548001 x553000 x553001))) else (none)) else (if (x553001.length:Int)>8 then ((spec_l03Ill.f 9).bind fun bt569=>(some (bt569.1,bt569.2.1,bt569.2.2.1,bt569.2.2.2.1,bt569.2.2.2.2))) else (some (x553000,x553001,0,0,0)))
def spec_l03Sync.j3:Nat→Int→Bool→List (S56)→List (S91)→List (S56)→List (S91)→List (S56)→List (S91)→Option ((List (S56)) × (List (S91)) × Int × Int × Int)
 | 0,_,_,_,_,_,_,_,_=>none
 | k+1,x7,x80,x547000,x547001,x548000,x548001,x553000,x553001=>if x80=true then (if 0≤x7 then (if x7<(x548001.length:Int) then ((spec_l03In.f k x553001 ((rd_T91 x548001 x7).f0.f0) ((rd_T91 x548001 x7).f0.f1) ((rd_T91 x548001 x7).f1) ((rd_T91 x548001 x7).f2)).bind fun t566=>(spec_l03Sync.l1 k (wrap64 (x7+1)) x547000 x547001 x548000 x548001 x553000 t566)) else (none)) else (none)) else (spec_l03Sync.l1 k (wrap64 (x7+1)) x547000 x547001 x548000 x548001 x553000 x553001)
end
def spec_l03Sync.f (k:Nat) (l0_0:List (S56)) (l0_1:List (S91)) (l1_0:List (S56)) (l1_1:List (S91)):Option ((List (S56)) × (List (S91)) × Int × Int × Int):=(spec_l02Join.f k l0_0 l1_0).bind fun t549=>(spec_l03Sync.l0 k 0 l0_0 l0_1 l1_0 l1_1 t549 ([]:List (S91)))
theorem spec_l03Sync.mono_l:∀ k,(∀ y0 y1 y2 y3 y4 y5 y6,LeO (spec_l03Sync.l0 k y0 y1 y2 y3 y4 y5 y6) (spec_l03Sync.l0 (k+1) y0 y1 y2 y3 y4 y5 y6))∧(∀ y0 y1 y2 y3 y4 y5 y6 y7,LeO (spec_l03Sync.j1 k y0 y1 y2 y3 y4 y5 y6 y7) (spec_l03Sync.j1 (k+1) y0 y1 y2 y3 y4 y5 y6 y7))∧(∀ y0 y1 y2 y3 y4 y5 y6,LeO (spec_l03Sync.l1 k y0 y1 y2 y3 y4 y5 y6) (spec_l03Sync.l1 (k+1) y0 y1 y2 y3 y4 y5 y6))∧(∀ y0 y1 y2 y3 y4 y5 y6 y7,LeO (spec_l03Sync.j3 k y0 y1 y2 y3 y4 y5 y6 y7) (spec_l03Sync.j3 (k+1) y0 y1 y2 y3 y4 y5 y6 y7))
 | 0=>⟨fun _ _ _ _ _ _ _ r h=>by simp [spec_l03Sync.l0] at h,fun _ _ _ _ _ _ _ _ r h=>by simp [spec_l03Sync.j1] at h,fun _ _ _ _ _ _ _ r h=>by simp [spec_l03Sync.l1] at h,fun _ _ _ _ _ _ _ _ r h=>by simp [spec_l03Sync.j3] at h⟩
 | k+1=>by
  obtain ⟨ih0,ih1,ih2,ih3⟩:=spec_l03Sync.mono_l k
  refine ⟨?_,?_,?_,?_⟩
  ·intro y0 y1 y2 y3 y4 y5 y6
   unfold spec_l03Sync.l0
   repeat' first
   | (with_reducible exact ih0 _ _ _ _ _ _ _)
   | (with_reducible exact ih1 _ _ _ _ _ _ _ _)
   | (with_reducible exact ih2 _ _ _ _ _ _ _)
   | (with_reducible exact ih3 _ _ _ _ _ _ _ _)
   | (with_reducible exact spec_SeenHas.mono _ _ _ _)
   | (with_reducible exact spec_l02Join.mono _ _ _)
   | (with_reducible exact spec_l03At.mono _ _ _ _)
   | (with_reducible exact spec_l03In.mono _ _ _ _ _ _)
   | (with_reducible exact LeO.refl _)
   | (with_reducible exact LeO.none _)
   | (with_reducible refine LeO.ite ?_ ?_)
   | (with_reducible refine LeO.bind ?_ (fun _=>?_))
   | exact ih0 _ _ _ _ _ _ _
   | exact ih1 _ _ _ _ _ _ _ _
   | exact ih2 _ _ _ _ _ _ _
   | exact ih3 _ _ _ _ _ _ _ _
   | exact spec_SeenHas.mono _ _ _ _
   | exact spec_l02Join.mono _ _ _
   | exact spec_l03At.mono _ _ _ _
   | exact spec_l03In.mono _ _ _ _ _ _
   | exact LeO.none _
   | refine LeO.ite ?_ ?_
   | refine LeO.bind ?_ (fun _=>?_)
  ·intro y0 y1 y2 y3 y4 y5 y6 y7
   unfold spec_l03Sync.j1
   repeat' first
   | (with_reducible exact ih0 _ _ _ _ _ _ _)
   | (with_reducible exact ih1 _ _ _ _ _ _ _ _)
   | (with_reducible exact ih2 _ _ _ _ _ _ _)
   | (with_reducible exact ih3 _ _ _ _ _ _ _ _)
   | (with_reducible exact spec_SeenHas.mono _ _ _ _)
   | (with_reducible exact spec_l02Join.mono _ _ _)
   | (with_reducible exact spec_l03At.mono _ _ _ _)
   | (with_reducible exact spec_l03In.mono _ _ _ _ _ _)
   | (with_reducible exact LeO.refl _)
   | (with_reducible exact LeO.none _)
   | (with_reducible refine LeO.ite ?_ ?_)
   | (with_reducible refine LeO.bind ?_ (fun _=>?_))
   | exact ih0 _ _ _ _ _ _ _
   | exact ih1 _ _ _ _ _ _ _ _
   | exact ih2 _ _ _ _ _ _ _
   | exact ih3 _ _ _ _ _ _ _ _
   | exact spec_SeenHas.mono _ _ _ _
   | exact spec_l02Join.mono _ _ _
   | exact spec_l03At.mono _ _ _ _
   | exact spec_l03In.mono _ _ _ _ _ _
   | exact LeO.none _
   | refine LeO.ite ?_ ?_
   | refine LeO.bind ?_ (fun _=>?_)
  ·intro y0 y1 y2 y3 y4 y5 y6
   unfold spec_l03Sync.l1
   repeat' first
   | (with_reducible exact ih0 _ _ _ _ _ _ _)
   | (with_reducible exact ih1 _ _ _ _ _ _ _ _)
   | (with_reducible exact ih2 _ _ _ _ _ _ _)
   | (with_reducible exact ih3 _ _ _ _ _ _ _ _)
   | (with_reducible exact spec_SeenHas.mono _ _ _ _)
   | (with_reducible exact spec_l02Join.mono _ _ _)
   | (with_reducible exact spec_l03At.mono _ _ _ _)
   | (with_reducible exact spec_l03In.mono _ _ _ _ _ _)
   | (with_reducible exact LeO.refl _)
   | (with_reducible exact LeO.none _)
   | (with_reducible refine LeO.ite ?_ ?_)
   | (with_reducible refine LeO.bind ?_ (fun _=>?_))
   | exact ih0 _ _ _ _ _ _ _
   | exact ih1 _ _ _ _ _ _ _ _
   | exact ih2 _ _ _ _ _ _ _
   | exact ih3 _ _ _ _ _ _ _ _
   | exact spec_SeenHas.mono _ _ _ _
   | exact spec_l02Join.mono _ _ _
   | exact spec_l03At.mono _ _ _ _
   | exact spec_l03In.mono _ _ _ _ _ _
   | exact LeO.none _
   | refine LeO.ite ?_ ?_
   | refine LeO.bind ?_ (fun _=>?_)
  ·intro y0 y1 y2 y3 y4 y5 y6 y7
   unfold spec_l03Sync.j3
   repeat' first
   | (with_reducible exact ih0 _ _ _ _ _ _ _)
   | (with_reducible exact ih1 _ _ _ _ _ _ _ _)
   | (with_reducible exact ih2 _ _ _ _ _ _ _)
   | (with_reducible exact ih3 _ _ _ _ _ _ _ _)
   | (with_reducible exact spec_SeenHas.mono _ _ _ _)
   | (with_reducible exact spec_l02Join.mono _ _ _)
   | (with_reducible exact spec_l03At.mono _ _ _ _)
   | (with_reducible exact spec_l03In.mono _ _ _ _ _ _)
   | (with_reducible exact LeO.refl _)
   | (with_reducible exact LeO.none _)
   | (with_reducible refine LeO.ite ?_ ?_)
   | (with_reducible refine LeO.bind ?_ (fun _=>?_))
   | exact ih0 _ _ _ _ _ _ _
   | exact ih1 _ _ _ _ _ _ _ _
   | exact ih2 _ _ _ _ _ _ _
   | exact ih3 _ _ _ _ _ _ _ _
   | exact spec_SeenHas.mono _ _ _ _
   | exact spec_l02Join.mono _ _ _
   | exact spec_l03At.mono _ _ _ _
   | exact spec_l03In.mono _ _ _ _ _ _
   | exact LeO.none _
   | refine LeO.ite ?_ ?_
   | refine LeO.bind ?_ (fun _=>?_)
theorem spec_l03Sync.mono:∀ a0 a1 a2 a3 k,LeO (spec_l03Sync.f k a0 a1 a2 a3) (spec_l03Sync.f (k+1) a0 a1 a2 a3):=by
 intro a0 a1 a2 a3 k
 obtain ⟨ih0,ih1,ih2,ih3⟩:=spec_l03Sync.mono_l k
 unfold spec_l03Sync.f
 repeat' first
   | (with_reducible exact ih0 _ _ _ _ _ _ _)
   | (with_reducible exact ih1 _ _ _ _ _ _ _ _)
   | (with_reducible exact ih2 _ _ _ _ _ _ _)
   | (with_reducible exact ih3 _ _ _ _ _ _ _ _)
   | (with_reducible exact spec_SeenHas.mono _ _ _ _)
   | (with_reducible exact spec_l02Join.mono _ _ _)
   | (with_reducible exact spec_l03At.mono _ _ _ _)
   | (with_reducible exact spec_l03In.mono _ _ _ _ _ _)
   | (with_reducible exact LeO.refl _)
   | (with_reducible exact LeO.none _)
   | (with_reducible refine LeO.ite ?_ ?_)
   | (with_reducible refine LeO.bind ?_ (fun _=>?_))
   | exact ih0 _ _ _ _ _ _ _
   | exact ih1 _ _ _ _ _ _ _ _
   | exact ih2 _ _ _ _ _ _ _
   | exact ih3 _ _ _ _ _ _ _ _
   | exact spec_SeenHas.mono _ _ _ _
   | exact spec_l02Join.mono _ _ _
   | exact spec_l03At.mono _ _ _ _
   | exact spec_l03In.mono _ _ _ _ _ _
   | exact LeO.none _
   | refine LeO.ite ?_ ?_
   | refine LeO.bind ?_ (fun _=>?_)
abbrev spec_l03Sync.q0:Array Bool:=#[O,O,O,O,O,O,O,O,O,O,O,O,O,O,O,O,O,O,O,O,O,O]
abbrev spec_l03Sync.q1:Array Bool:=#[I,O,O,O,O,O,O,O,O,O,O,O,O,O,O,O,O,O,O,O,O,O]
abbrev spec_l03Sync.q2:Array Bool:=#[I,O,I,O,O,O,O,O,O,O,O,O,O,O,O,O,O,O,O,O,O,O]
abbrev spec_l03Sync.q3:Array Bool:=#[I,O,I,O,I,O,O,O,O,O,O,O,O,O,O,O,O,O,O,O,O,O]
abbrev spec_l03Sync.q4:Array Bool:=#[I,I,I,O,I,O,O,O,O,O,O,O,O,O,O,O,O,O,O,O,O,O]
abbrev spec_l03Sync.q5:Array Bool:=#[I,I,I,I,I,O,O,O,O,O,O,O,O,O,O,O,O,O,O,O,O,O]
abbrev spec_l03Sync.q6:Array Bool:=#[I,I,I,I,I,I,O,O,O,O,O,O,O,O,O,O,O,O,O,O,O,O]
abbrev spec_l03Sync.q7:Array Bool:=#[I,I,I,I,I,I,I,O,O,O,O,O,O,O,O,O,O,O,O,O,O,O]
abbrev spec_l03Sync.q8:Array Bool:=#[I,I,I,I,I,I,I,I,O,O,O,O,O,O,O,O,O,O,O,O,O,O]
abbrev spec_l03Sync.q9:Array Bool:=#[I,I,I,I,I,I,I,I,I,O,O,O,O,O,O,O,O,O,O,O,O,O]
abbrev spec_l03Sync.q10:Array Bool:=#[I,I,I,I,I,I,I,I,I,I,O,O,O,O,O,O,O,O,O,O,O,O]
abbrev spec_l03Sync.q14:Array Bool:=#[I,I,I,I,I,I,I,I,I,I,I,I,I,I,O,O,O,O,O,O,O,O]
abbrev spec_l03Sync.q21:Array Bool:=#[I,I,I,I,I,I,I,I,I,I,I,I,I,I,I,I,I,I,I,I,I,O]
abbrev spec_l03Sync.q24:Array Bool:=#[I,I,I,I,I,I,I,I,I,I,I,I,O,I,O,I,O,O,O,O,O,O]
abbrev spec_l03Sync.q25:Array Bool:=#[I,I,I,I,I,I,I,I,I,I,I,I,I,I,O,I,O,O,O,O,O,O]

/-! ### spec_SetSync: function 24 -/
def spec_SetSync.j0:Nat→Bool→List (S56)→List (S91)→List (S56)→List (S91)→Option ((List (S56)) × (List (S91)) × Int × Int × Int)
 | 0,_,_,_,_,_=>none
 | k+1,x12,x579000,x579001,x580000,x580001=>if x12=true then ((spec_l03Ill.f 1).bind fun bt583=>(some (bt583.1,bt583.2.1,bt583.2.2.1,bt583.2.2.2.1,bt583.2.2.2.2))) else ((spec_l03Sync.f k x579000 x579001 x580000 x580001).bind fun bt592=>(some (bt592.1,bt592.2.1,bt592.2.2.1,bt592.2.2.2.1,bt592.2.2.2.2)))
def spec_SetSync.f (k:Nat) (l0_0:List (S56)) (l0_1:List (S91)) (l1_0:List (S56)) (l1_1:List (S91)):Option ((List (S56)) × (List (S91)) × Int × Int × Int):=(spec_SetRight.f k l0_0 l0_1).bind fun t581=>(if t581=true then ((spec_SetRight.f k l1_0 l1_1).bind fun t582=>(spec_SetSync.j0 k (!t582) l0_0 l0_1 l1_0 l1_1)) else (spec_SetSync.j0 k true l0_0 l0_1 l1_0 l1_1))
theorem spec_SetSync.mono_l:∀ k,(∀ y0 y1 y2 y3 y4,LeO (spec_SetSync.j0 k y0 y1 y2 y3 y4) (spec_SetSync.j0 (k+1) y0 y1 y2 y3 y4))
 | 0=>fun _ _ _ _ _ r h=>by simp [spec_SetSync.j0] at h
 | k+1=>by
  have ih0:=spec_SetSync.mono_l k
  ·intro y0 y1 y2 y3 y4
   unfold spec_SetSync.j0
   repeat' first
   | (with_reducible exact ih0 _ _ _ _ _)
   | (with_reducible exact spec_SetRight.mono _ _ _)
   | (with_reducible exact spec_l03Sync.mono _ _ _ _ _)
   | (with_reducible exact LeO.refl _)
   | (with_reducible exact LeO.none _)
   | (with_reducible refine LeO.ite ?_ ?_)
   | (with_reducible refine LeO.bind ?_ (fun _=>?_))
   | exact ih0 _ _ _ _ _
   | exact spec_SetRight.mono _ _ _
   | exact spec_l03Sync.mono _ _ _ _ _
   | exact LeO.none _
   | refine LeO.ite ?_ ?_
   | refine LeO.bind ?_ (fun _=>?_)
theorem spec_SetSync.mono:∀ a0 a1 a2 a3 k,LeO (spec_SetSync.f k a0 a1 a2 a3) (spec_SetSync.f (k+1) a0 a1 a2 a3):=by
 intro a0 a1 a2 a3 k
 have ih0:=spec_SetSync.mono_l k
 unfold spec_SetSync.f
 repeat' first
   | (with_reducible exact ih0 _ _ _ _ _)
   | (with_reducible exact spec_SetRight.mono _ _ _)
   | (with_reducible exact spec_l03Sync.mono _ _ _ _ _)
   | (with_reducible exact LeO.refl _)
   | (with_reducible exact LeO.none _)
   | (with_reducible refine LeO.ite ?_ ?_)
   | (with_reducible refine LeO.bind ?_ (fun _=>?_))
   | exact ih0 _ _ _ _ _
   | exact spec_SetRight.mono _ _ _
   | exact spec_l03Sync.mono _ _ _ _ _
   | exact LeO.none _
   | refine LeO.ite ?_ ?_
   | refine LeO.bind ?_ (fun _=>?_)

/-! ### impl_SetSync: function 25 -/
mutual
def impl_SetSync.j0:Nat→Bool→List (S56)→List (S91)→List (S56)→List (S91)→Option ((List (S56)) × (List (S91)) × Int × Int × Int)
 | 0,_,_,_,_,_=>none
 | k+1,x17,x628000,x628001,x629000,x629001=>if x17=true then (some (([]:List (S56)),([]:List (S91)),0,0,1)) else ((impl_seenJoin.f k x628000 x629000).bind fun t632=>(impl_SetSync.l0 k x628001 (x628001.length:Int) 0 x628000 x628001 x629000 x629001 t632 ([]:List (S91))))
def impl_SetSync.l0:Nat→List (S91)→Int→Int→List (S56)→List (S91)→List (S56)→List (S91)→List (S56)→List (S91)→Option ((List (S56)) × (List (S91)) × Int × Int × Int)
 | 0,_,_,_,_,_,_,_,_,_=>none
 | k+1,x26,x27,x28,x628000,x628001,x629000,x629001,x636000,x636001=>if x28<x27 then (if 0≤x28 then (if x28<(x26.length:Int) then ((impl_Set_sib.f k x629000 x629001 ((rd_T91 x26 x28).f0.f0) ((rd_T91 x26 x28).f0.f1)).bind fun t638=>(if t638≥0 then (impl_SetSync.j2 k x26 x27 x28 true x628000 x628001 x629000 x629001 x636000 x636001 ((rd_T91 x26 x28).f0.f0) ((rd_T91 x26 x28).f0.f1) ((rd_T91 x26 x28).f1) ((rd_T91 x26 x28).f2)) else ((impl_seenHas.f k x629000 ((rd_T91 x26 x28).f0.f0) ((rd_T91 x26 x28).f0.f1)).bind fun t639=>(impl_SetSync.j2 k x26 x27 x28 (!t639) x628000 x628001 x629000 x629001 x636000 x636001 ((rd_T91 x26 x28).f0.f0) ((rd_T91 x26 x28).f0.f1) ((rd_T91 x26 x28).f1) ((rd_T91 x26 x28).f2))))) else (none)) else (none)) else (impl_SetSync.l1 k x629001 (x629001.length:Int) 0 x628000 x628001 x636000 x636001)
def impl_SetSync.j2:Nat→List (S91)→Int→Int→Bool→List (S56)→List (S91)→List (S56)→List (S91)→List (S56)→List (S91)→Int→Int→Bool→ByteArray→Option ((List (S56)) × (List (S91)) × Int × Int × Int)
 | 0,_,_,_,_,_,_,_,_,_,_,_,_,_,_=>none
 | k+1,x26,x27,x28,x44,x628000,x628001,x629000,x629001,x636000,x636001,x638000,x638001,x638002,x638003=>if x44=true then (if x636001.length<3518437208883 then (impl_SetSync.l0 k x26 x27 (wrap64 (x28+1)) x628000 x628001 x629000 x629001 x636000 (x636001 ++ [(⟨(⟨x638000,x638001⟩:S56),x638002,x638003⟩:S91)])) else (none)) else (impl_SetSync.l0 k x26 x27 (wrap64 (x28+1)) x628000 x628001 x629000 x629001 x636000 x636001)
def impl_SetSync.l1:Nat→List (S91)→Int→Int→List (S56)→List (S91)→List (S56)→List (S91)→Option ((List (S56)) × (List (S91)) × Int × Int × Int)
 | 0,_,_,_,_,_,_,_=>none
 | k+1,x53,x54,x55,x628000,x628001,x636000,x636001=>if x55<x54 then (if 0≤x55 then (if x55<(x53.length:Int) then ((impl_Set_sib.f k x628000 x628001 ((rd_T91 x53 x55).f0.f0) ((rd_T91 x53 x55).f0.f1)).bind fun t645=>(if t645<0 then ((impl_seenHas.f k x628000 ((rd_T91 x53 x55).f0.f0) ((rd_T91 x53 x55).f0.f1)).bind fun t646=>(impl_SetSync.j4 k x53 x54 x55 (!t646) x628000 x628001 x636000 x636001 ((rd_T91 x53 x55).f0.f0) ((rd_T91 x53 x55).f0.f1) ((rd_T91 x53 x55).f1) ((rd_T91 x53 x55).f2))) else (impl_SetSync.j4 k x53 x54 x55 false x628000 x628001 x636000 x636001 ((rd_T91 x53 x55).f0.f0) ((rd_T91 x53 x55).f0.f1) ((rd_T91 x53 x55).f1) ((rd_T91 x53 x55).f2)))) else (none)) else (none)) else (if (x636001.length:Int)>8 then (some (([]:List (S56)),([]:List (S91)),0,0,9)) else ((impl_sorted.f k x636001).bind fun t650=>(some (x636000,t650,0,0,0))))
def impl_SetSync.j4:Nat→List (S91)→Int→Int→Bool→List (S56)→List (S91)→List (S56)→List (S91)→Int→Int→Bool→ByteArray→Option ((List (S56)) × (List (S91)) × Int × Int × Int)
 | 0,_,_,_,_,_,_,_,_,_,_,_,_=>none
 | k+1,x53,x54,x55,x71,x628000,x628001,x636000,x636001,x645000,x645001,x645002,x645003=>if x71=true then (if x636001.length<3518437208883 then (impl_SetSync.l1 k x53 x54 (wrap64 (x55+1)) x628000 x628001 x636000 (x636001 ++ [(⟨(⟨x645000,x645001⟩:S56),x645002,x645003⟩:S91)])) else (none)) else (impl_SetSync.l1 k x53 x54 (wrap64 (x55+1)) x628000 x628001 x636000 x636001)
end
def impl_SetSync.f (k:Nat) (l0_0:List (S56)) (l0_1:List (S91)) (l1_0:List (S56)) (l1_1:List (S91)):Option ((List (S56)) × (List (S91)) × Int × Int × Int):=(impl_SetRight.f k l0_0 l0_1).bind fun t630=>(if t630=true then ((impl_SetRight.f k l1_0 l1_1).bind fun t631=>(impl_SetSync.j0 k (!t631) l0_0 l0_1 l1_0 l1_1)) else (impl_SetSync.j0 k true l0_0 l0_1 l1_0 l1_1))
theorem impl_SetSync.mono_l:∀ k,(∀ y0 y1 y2 y3 y4,LeO (impl_SetSync.j0 k y0 y1 y2 y3 y4) (impl_SetSync.j0 (k+1) y0 y1 y2 y3 y4))∧(∀ y0 y1 y2 y3 y4 y5 y6 y7 y8,LeO (impl_SetSync.l0 k y0 y1 y2 y3 y4 y5 y6 y7 y8) (impl_SetSync.l0 (k+1) y0 y1 y2 y3 y4 y5 y6 y7 y8))∧(∀ y0 y1 y2 y3 y4 y5 y6 y7 y8 y9 y10 y11 y12 y13,LeO (impl_SetSync.j2 k y0 y1 y2 y3 y4 y5 y6 y7 y8 y9 y10 y11 y12 y13) (impl_SetSync.j2 (k+1) y0 y1 y2 y3 y4 y5 y6 y7 y8 y9 y10 y11 y12 y13))∧(∀ y0 y1 y2 y3 y4 y5 y6,LeO (impl_SetSync.l1 k y0 y1 y2 y3 y4 y5 y6) (impl_SetSync.l1 (k+1) y0 y1 y2 y3 y4 y5 y6))∧(∀ y0 y1 y2 y3 y4 y5 y6 y7 y8 y9 y10 y11,LeO (impl_SetSync.j4 k y0 y1 y2 y3 y4 y5 y6 y7 y8 y9 y10 y11) (impl_SetSync.j4 (k+1) y0 y1 y2 y3 y4 y5 y6 y7 y8 y9 y10 y11))
 | 0=>⟨fun _ _ _ _ _ r h=>by simp [impl_SetSync.j0] at h,fun _ _ _ _ _ _ _ _ _ r h=>by simp [impl_SetSync.l0] at h,fun _ _ _ _ _ _ _ _ _ _ _ _ _ _ r h=>by simp [impl_SetSync.j2] at h,fun _ _ _ _ _ _ _ r h=>by simp [impl_SetSync.l1] at h,fun _ _ _ _ _ _ _ _ _ _ _ _ r h=>by simp [impl_SetSync.j4] at h⟩
 | k+1=>by
  obtain ⟨ih0,ih1,ih2,ih3,ih4⟩:=impl_SetSync.mono_l k
  refine ⟨?_,?_,?_,?_,?_⟩
  ·intro y0 y1 y2 y3 y4
   unfold impl_SetSync.j0
   repeat' first
   | (with_reducible exact ih0 _ _ _ _ _)
   | (with_reducible exact ih1 _ _ _ _ _ _ _ _ _)
   | (with_reducible exact ih2 _ _ _ _ _ _ _ _ _ _ _ _ _ _)
   | (with_reducible exact ih3 _ _ _ _ _ _ _)
   | (with_reducible exact ih4 _ _ _ _ _ _ _ _ _ _ _ _)
   | (with_reducible exact impl_SetRight.mono _ _ _)
   | (with_reducible exact impl_Set_sib.mono _ _ _ _ _)
   | (with_reducible exact impl_seenHas.mono _ _ _ _)
   | (with_reducible exact impl_seenJoin.mono _ _ _)
   | (with_reducible exact impl_sorted.mono _ _)
   | (with_reducible exact LeO.refl _)
   | (with_reducible exact LeO.none _)
   | (with_reducible refine LeO.ite ?_ ?_)
   | (with_reducible refine LeO.bind ?_ (fun _=>?_))
   | exact ih0 _ _ _ _ _
   | exact ih1 _ _ _ _ _ _ _ _ _
   | exact ih2 _ _ _ _ _ _ _ _ _ _ _ _ _ _
   | exact ih3 _ _ _ _ _ _ _
   | exact ih4 _ _ _ _ _ _ _ _ _ _ _ _
   | exact impl_SetRight.mono _ _ _
   | exact impl_Set_sib.mono _ _ _ _ _
   | exact impl_seenHas.mono _ _ _ _
   | exact impl_seenJoin.mono _ _ _
   | exact impl_sorted.mono _ _
   | exact LeO.none _
   | refine LeO.ite ?_ ?_
   | refine LeO.bind ?_ (fun _=>?_)
  ·intro y0 y1 y2 y3 y4 y5 y6 y7 y8
   unfold impl_SetSync.l0
   repeat' first
   | (with_reducible exact ih0 _ _ _ _ _)
   | (with_reducible exact ih1 _ _ _ _ _ _ _ _ _)
   | (with_reducible exact ih2 _ _ _ _ _ _ _ _ _ _ _ _ _ _)
   | (with_reducible exact ih3 _ _ _ _ _ _ _)
   | (with_reducible exact ih4 _ _ _ _ _ _ _ _ _ _ _ _)
   | (with_reducible exact impl_SetRight.mono _ _ _)
   | (with_reducible exact impl_Set_sib.mono _ _ _ _ _)
   | (with_reducible exact impl_seenHas.mono _ _ _ _)
   | (with_reducible exact impl_seenJoin.mono _ _ _)
   | (with_reducible exact impl_sorted.mono _ _)
   | (with_reducible exact LeO.refl _)
   | (with_reducible exact LeO.none _)
   | (with_reducible refine LeO.ite ?_ ?_)
   | (with_reducible refine LeO.bind ?_ (fun _=>?_))
   | exact ih0 _ _ _ _ _
   | exact ih1 _ _ _ _ _ _ _ _ _
   | exact ih2 _ _ _ _ _ _ _ _ _ _ _ _ _ _
   | exact ih3 _ _ _ _ _ _ _
   | exact ih4 _ _ _ _ _ _ _ _ _ _ _ _
   | exact impl_SetRight.mono _ _ _
   | exact impl_Set_sib.mono _ _ _ _ _
   | exact impl_seenHas.mono _ _ _ _
   | exact impl_seenJoin.mono _ _ _
   | exact impl_sorted.mono _ _
   | exact LeO.none _
   | refine LeO.ite ?_ ?_
   | refine LeO.bind ?_ (fun _=>?_)
  ·intro y0 y1 y2 y3 y4 y5 y6 y7 y8 y9 y10 y11 y12 y13
   unfold impl_SetSync.j2
   repeat' first
   | (with_reducible exact ih0 _ _ _ _ _)
   | (with_reducible exact ih1 _ _ _ _ _ _ _ _ _)
   | (with_reducible exact ih2 _ _ _ _ _ _ _ _ _ _ _ _ _ _)
   | (with_reducible exact ih3 _ _ _ _ _ _ _)
   | (with_reducible exact ih4 _ _ _ _ _ _ _ _ _ _ _ _)
   | (with_reducible exact impl_SetRight.mono _ _ _)
   | (with_reducible exact impl_Set_sib.mono _ _ _ _ _)
   | (with_reducible exact impl_seenHas.mono _ _ _ _)
   | (with_reducible exact impl_seenJoin.mono _ _ _)
   | (with_reducible exact impl_sorted.mono _ _)
   | (with_reducible exact LeO.refl _)
   | (with_reducible exact LeO.none _)
   | (with_reducible refine LeO.ite ?_ ?_)
   | (with_reducible refine LeO.bind ?_ (fun _=>?_))
   | exact ih0 _ _ _ _ _
   | exact ih1 _ _ _ _ _ _ _ _ _
   | exact ih2 _ _ _ _ _ _ _ _ _ _ _ _ _ _
   | exact ih3 _ _ _ _ _ _ _
   | exact ih4 _ _ _ _ _ _ _ _ _ _ _ _
   | exact impl_SetRight.mono _ _ _
   | exact impl_Set_sib.mono _ _ _ _ _
   | exact impl_seenHas.mono _ _ _ _
   | exact impl_seenJoin.mono _ _ _
   | exact impl_sorted.mono _ _
   | exact LeO.none _
   | refine LeO.ite ?_ ?_
   | refine LeO.bind ?_ (fun _=>?_)
  ·intro y0 y1 y2 y3 y4 y5 y6
   unfold impl_SetSync.l1
   repeat' first
   | (with_reducible exact ih0 _ _ _ _ _)
   | (with_reducible exact ih1 _ _ _ _ _ _ _ _ _)
   | (with_reducible exact ih2 _ _ _ _ _ _ _ _ _ _ _ _ _ _)
   | (with_reducible exact ih3 _ _ _ _ _ _ _)
   | (with_reducible exact ih4 _ _ _ _ _ _ _ _ _ _ _ _)
   | (with_reducible exact impl_SetRight.mono _ _ _)
   | (with_reducible exact impl_Set_sib.mono _ _ _ _ _)
   | (with_reducible exact impl_seenHas.mono _ _ _ _)
   | (with_reducible exact impl_seenJoin.mono _ _ _)
   | (with_reducible exact impl_sorted.mono _ _)
   | (with_reducible exact LeO.refl _)
   | (with_reducible exact LeO.none _)
   | (with_reducible refine LeO.ite ?_ ?_)
   | (with_reducible refine LeO.bind ?_ (fun _=>?_))
   | exact ih0 _ _ _ _ _
   | exact ih1 _ _ _ _ _ _ _ _ _
   | exact ih2 _ _ _ _ _ _ _ _ _ _ _ _ _ _
   | exact ih3 _ _ _ _ _ _ _
   | exact ih4 _ _ _ _ _ _ _ _ _ _ _ _
   | exact impl_SetRight.mono _ _ _
   | exact impl_Set_sib.mono _ _ _ _ _
   | exact impl_seenHas.mono _ _ _ _
   | exact impl_seenJoin.mono _ _ _
   | exact impl_sorted.mono _ _
   | exact LeO.none _
   | refine LeO.ite ?_ ?_
   | refine LeO.bind ?_ (fun _=>?_)
  ·intro y0 y1 y2 y3 y4 y5 y6 y7 y8 y9 y10 y11
   unfold impl_SetSync.j4
   repeat' first
   | (with_reducible exact ih0 _ _ _ _ _)
   | (with_reducible exact ih1 _ _ _ _ _ _ _ _ _)
   | (with_reducible exact ih2 _ _ _ _ _ _ _ _ _ _ _ _ _ _)
   | (with_reducible exact ih3 _ _ _ _ _ _ _)
   | (with_reducible exact ih4 _ _ _ _ _ _ _ _ _ _ _ _)
   | (with_reducible exact impl_SetRight.mono _ _ _)
   | (with_reducible exact impl_Set_sib.mono _ _ _ _ _)
   | (with_reducible exact impl_seenHas.mono _ _ _ _)
   | (with_reducible exact impl_seenJoin.mono _ _ _)
   | (with_reducible exact impl_sorted.mono _ _)
   | (with_reducible exact LeO.refl _)
   | (with_reducible exact LeO.none _)
   | (with_reducible refine LeO.ite ?_ ?_)
   | (with_reducible refine LeO.bind ?_ (fun _=>?_))
   | exact ih0 _ _ _ _ _
   | exact ih1 _ _ _ _ _ _ _ _ _
   | exact ih2 _ _ _ _ _ _ _ _ _ _ _ _ _ _
   | exact ih3 _ _ _ _ _ _ _
   | exact ih4 _ _ _ _ _ _ _ _ _ _ _ _
   | exact impl_SetRight.mono _ _ _
   | exact impl_Set_sib.mono _ _ _ _ _
   | exact impl_seenHas.mono _ _ _ _
   | exact impl_seenJoin.mono _ _ _
   | exact impl_sorted.mono _ _
   | exact LeO.none _
   | refine LeO.ite ?_ ?_
   | refine LeO.bind ?_ (fun _=>?_)
theorem impl_SetSync.mono:∀ a0 a1 a2 a3 k,LeO (impl_SetSync.f k a0 a1 a2 a3) (impl_SetSync.f (k+1) a0 a1 a2 a3):=by
 intro a0 a1 a2 a3 k
 obtain ⟨ih0,ih1,ih2,ih3,ih4⟩:=impl_SetSync.mono_l k
 unfold impl_SetSync.f
 repeat' first
   | (with_reducible exact ih0 _ _ _ _ _)
   | (with_reducible exact ih1 _ _ _ _ _ _ _ _ _)
   | (with_reducible exact ih2 _ _ _ _ _ _ _ _ _ _ _ _ _ _)
   | (with_reducible exact ih3 _ _ _ _ _ _ _)
   | (with_reducible exact ih4 _ _ _ _ _ _ _ _ _ _ _ _)
   | (with_reducible exact impl_SetRight.mono _ _ _)
   | (with_reducible exact impl_Set_sib.mono _ _ _ _ _)
   | (with_reducible exact impl_seenHas.mono _ _ _ _)
   | (with_reducible exact impl_seenJoin.mono _ _ _)
   | (with_reducible exact impl_sorted.mono _ _)
   | (with_reducible exact LeO.refl _)
   | (with_reducible exact LeO.none _)
   | (with_reducible refine LeO.ite ?_ ?_)
   | (with_reducible refine LeO.bind ?_ (fun _=>?_))
   | exact ih0 _ _ _ _ _
   | exact ih1 _ _ _ _ _ _ _ _ _
   | exact ih2 _ _ _ _ _ _ _ _ _ _ _ _ _ _
   | exact ih3 _ _ _ _ _ _ _
   | exact ih4 _ _ _ _ _ _ _ _ _ _ _ _
   | exact impl_SetRight.mono _ _ _
   | exact impl_Set_sib.mono _ _ _ _ _
   | exact impl_seenHas.mono _ _ _ _
   | exact impl_seenJoin.mono _ _ _
   | exact impl_sorted.mono _ _
   | exact LeO.none _
   | refine LeO.ite ?_ ?_
   | refine LeO.bind ?_ (fun _=>?_)
end Go.Proofs.Ytphbgcfpcadabaa.P

namespace Go.Proofs.Ytphbgcfpcadabaa.Q
open Go.RowKit Go.Proofs.Ytphbgcfpcadabaa.P Go.Proofs.YtphbgcfpcadabaaW.PrintWords Go.Proofs.YtphbgcfpcadabaaW.PrintMore

def ltS (x y:Sib):Bool:=dotLess x.f0.f0 x.f0.f1 y.f0.f0 y.f0.f1
theorem ltS_iff {x y:Sib}:ltS x y=true ↔ x.f0.f0<y.f0.f0∨(x.f0.f0=y.f0.f0∧x.f0.f1<y.f0.f1):=by simp [ltS,dotLess]
theorem ltS_trans {x y z:Sib} (h:ltS x y=true) (k:ltS y z=true):ltS x z=true:=by
  rw [ltS_iff] at *;omega
theorem ltS_asymm {x y:Sib} (h:ltS x y=true):¬ ltS y x=true:=by
  rw [ltS_iff] at *;omega
/-- The two have dots of their own. -/
def Apart (x y:Sib):Prop:=ltS x y=true∨ltS y x=true
def insS:List Sib→Sib→List Sib
  | [],x=>[x]
  | y :: r,x=>if ltS y x=true then y :: insS r x else x :: y :: r
/-- From the right; what it goes into stands turned around. -/
def insR:List Sib→Sib→List Sib
  | [],x=>[x]
  | y :: r,x=>if ltS x y=true then insR r x ++ [y] else r.reverse ++ [y,x]
theorem insR_length (x:Sib):∀ p:List Sib,(insR p x).length=p.length+1
  | []=>rfl
  | y :: r=>by
    simp only [insR]
    split
    · rw [List.length_append,insR_length x r];rfl
    · simp
theorem insS_snoc (x y:Sib) (hxy:Apart x y):∀ p:List Sib,(∀ z ∈ p,ltS z y=true)→insS (p ++ [y]) x=if ltS x y=true then insS p x ++ [y] else p ++ [y,x]
  | [],_=>by
    by_cases h:ltS x y=true
    · rw [if_pos h]
      simp only [List.nil_append,insS]
      rw [if_neg (ltS_asymm h)]
      rfl
    · rw [if_neg h]
      simp only [List.nil_append,insS]
      rw [if_pos (hxy.resolve_left h)]
  | z :: p,hp=>by
    have ih:=insS_snoc x y hxy p (fun w hw=>hp w (List.mem_cons_of_mem _ hw))
    have hz:=hp z List.mem_cons_self
    simp only [List.cons_append,insS]
    by_cases h:ltS x y=true
    · rw [if_pos h] at ih ⊢
      by_cases hzx:ltS z x=true
      · rw [if_pos hzx,if_pos hzx,ih];rfl
      · rw [if_neg hzx,if_neg hzx];rfl
    · rw [if_neg h] at ih ⊢
      rw [if_pos (ltS_trans hz (hxy.resolve_left h)),ih]
abbrev Sorted (p:List Sib):Prop:=p.Pairwise fun a b=>ltS a b=true
theorem insR_insS (x:Sib):∀ p:List Sib,Sorted p.reverse→(∀ z ∈ p,Apart x z)→insR p x=insS p.reverse x
  | [],_,_=>rfl
  | y :: r,hs,ha=>by
    rw [List.reverse_cons] at hs ⊢
    have h1:=List.pairwise_append.1 hs
    rw [insS_snoc x y (ha y List.mem_cons_self) r.reverse (fun z hz=>h1.2.2 z hz y (by simp))]
    simp only [insR]
    rw [insR_insS x r h1.1 (fun z hz=>ha z (List.mem_cons_of_mem _ hz))]
theorem insS_mem (x:Sib):∀ (p:List Sib) (z:Sib),z ∈ insS p x→z=x∨z ∈ p
  | [],z,h=>by simpa [insS] using h
  | y :: r,z,h=>by
    simp only [insS] at h
    split at h
    · rcases List.mem_cons.1 h with rfl | h
      · exact .inr List.mem_cons_self
      · rcases insS_mem x r z h with h | h
        · exact .inl h
        · exact .inr (List.mem_cons_of_mem _ h)
    · rcases List.mem_cons.1 h with rfl | h
      · exact .inl rfl
      · exact .inr h
theorem insS_sorted (x:Sib):∀ p:List Sib,Sorted p→(∀ z ∈ p,Apart x z)→Sorted (insS p x)
  | [],_,_=>by simp [insS,Sorted]
  | y :: r,hs,ha=>by
    have hs2:=List.pairwise_cons.1 hs
    simp only [insS]
    split
    · rename_i h
      refine List.pairwise_cons.2 ⟨fun z hz=>?_,insS_sorted x r hs2.2 (fun z hz=>ha z (List.mem_cons_of_mem _ hz))⟩
      rcases insS_mem x r z hz with rfl | hz
      · exact h
      · exact hs2.1 z hz
    · rename_i h
      have hxy:ltS x y=true:=(ha y List.mem_cons_self).resolve_right h
      refine List.pairwise_cons.2 ⟨fun z hz=>?_,hs⟩
      rcases List.mem_cons.1 hz with rfl | hz
      · exact hxy
      · exact ltS_trans hxy (hs2.1 z hz)
def insF (p:List Sib) (x:Sib):List Sib:=insR p.reverse x
theorem foldl_same:∀ (s p:List Sib),Sorted p→(∀ x ∈ s,∀ z ∈ p,Apart x z)→(s.Pairwise fun a b=>Apart b a)→s.foldl insF p=s.foldl insS p
  | [],_,_,_,_=>rfl
  | x :: s,p,hs,ha,hd=>by
    have hd2:=List.pairwise_cons.1 hd
    have e:insF p x=insS p x:=by
      have:=insR_insS x p.reverse (by rw [List.reverse_reverse];exact hs) (fun z hz=>ha x List.mem_cons_self z (List.mem_reverse.1 hz))
      rw [List.reverse_reverse] at this
      exact this
    rw [List.foldl_cons,List.foldl_cons,e]
    refine foldl_same s _ (insS_sorted x p hs (ha x List.mem_cons_self)) (fun y hy z hz=>?_) hd2.2
    rcases insS_mem x p z hz with rfl | hz
    · exact hd2.1 y hy
    · exact ha y (List.mem_cons_of_mem _ hy) z hz
theorem insS_length (x:Sib):∀ p:List Sib,(insS p x).length=p.length+1
  | []=>rfl
  | y :: r=>by
    simp only [insS]
    split
    · rw [List.length_cons,insS_length x r];rfl
    · rfl
theorem sibsFrom_lt (v:List Mark):∀ (s:List Sib) (y:Sib),sibsFrom v (some y) s=true→∀ z ∈ s,ltS y z=true
  | [],_,_,z,hz=>by cases hz
  | x :: r,y,h,z,hz=>by
    simp only [sibsFrom,Bool.and_eq_true] at h
    rcases List.mem_cons.1 hz with rfl | hz
    · exact h.2.1
    · exact ltS_trans h.2.1 (sibsFrom_lt v r x h.2.2 z hz)
theorem sibsFrom_sorted (v:List Mark):∀ (s:List Sib) (o:Option Sib),sibsFrom v o s=true→Sorted s
  | [],_,_=>List.Pairwise.nil
  | x :: r,o,h=>by
    have h2:sibsFrom v (some x) r=true:=by
      cases o with
      | none=>simp only [sibsFrom,Bool.and_eq_true] at h;exact h.2
      | some y=>simp only [sibsFrom,Bool.and_eq_true] at h;exact h.2.2
    exact List.pairwise_cons.2 ⟨sibsFrom_lt v r x h2,sibsFrom_sorted v r _ h2⟩
theorem setOk_sorted {v:List Mark} {l:List Sib} (h:setOk v l=true):Sorted l:=sibsFrom_sorted v l none ((setOk_iff v l).1 h).2.2
def keepA (vb:List Mark) (lb:List Sib) (x:Sib):Bool:=decide (sibAt x.f0.f0 x.f0.f1 0 lb≥0) || !seenHas vb x.f0.f0 x.f0.f1
def keepB (va:List Mark) (la:List Sib) (x:Sib):Bool:=decide (sibAt x.f0.f0 x.f0.f1 0 la<0) && !seenHas va x.f0.f0 x.f0.f1
def kept (va:List Mark) (la:List Sib) (vb:List Mark) (lb:List Sib):List Sib:=la.filter (keepA vb lb) ++ lb.filter (keepB va la)
theorem getD_midS (pre:List Sib) (m:Sib) (s:List Sib) (d:Sib):(pre ++ m :: s).getD pre.length d=m:=by
  simp [List.getD_eq_getElem?_getD]
theorem l03In_l0 (x:Sib):∀ (s pre:List Sib),pre.length+s.length≤1048576→Ev (fun k=>spec_l03In.l0 k (pre ++ s) (pre.length:Int) x.f0.f0 x.f0.f1 x.f1 x.f2) (pre ++ insS s x):=by
  have stop:∀ (s pre:List Sib),pre.length+s.length≤1048576→Ev (fun k=>spec_l03In.j1 k (pre ++ s) (pre.length:Int) false x.f0.f0 x.f0.f1 x.f1 x.f2) (pre ++ x :: s):=by
    intro s pre hl
    refine Ev.step (fun k=>by simp only [spec_l03In.j1];rw [if_neg (by simp)]) ?_
    refine evBind1 rfl (evPos (by omega) (evPos (by simp;omega) (evBind1 rfl (evPos (by simp;omega) (evBind1 rfl (evPos (by simp;omega) (evBind1 rfl (evBind1 rfl (evPos (by simp;omega) ?_)))))))))
    have e:(pre ++ s).take pre.length=pre:=by simp
    have e2:(pre ++ s).drop pre.length=s:=by simp
    simp only [Int.toNat_natCast,e,e2,List.nil_append,List.append_assoc,List.singleton_append]
    exact Ev.now _
  intro s
  induction s with
  | nil =>
    intro pre hl
    have:=stop [] pre hl
    simp only [insS]
    refine Ev.step (fun k=>?_) this
    simp only [spec_l03In.l0]
    rw [if_neg (by simp)]
  | cons y r ih =>
    intro pre hl
    simp only [List.length_cons] at hl
    have hr:rd_T91 (pre ++ y :: r) (pre.length:Int)=y:=by simp only [rd_T91,Int.toNat_natCast,getD_midS]
    have hl0:∀ k,spec_l03In.l0 (k+1) (pre ++ y :: r) (pre.length:Int) x.f0.f0 x.f0.f1 x.f1 x.f2=spec_l03In.j1 k (pre ++ y :: r) (pre.length:Int) (ltS y x) x.f0.f0 x.f0.f1 x.f1 x.f2:=fun k=>by
      simp only [spec_l03In.l0,hr,l03Less_is,Option.bind_some]
      rw [if_pos (by simp;omega),if_pos (by omega)]
      rfl
    refine Ev.step hl0 ?_
    simp only [insS]
    cases h:ltS y x with
    | true =>
      rw [if_pos rfl]
      have e:=ih (pre ++ [y]) (by simp;omega)
      simp only [List.length_append,List.length_cons,List.length_nil,List.append_assoc,List.cons_append,List.nil_append] at e
      refine Ev.step (fun k=>?_) e
      simp only [spec_l03In.j1]
      rw [if_pos trivial,w64 (by omega) (by omega)]
      rfl
    | false =>
      rw [if_neg (by simp)]
      exact stop (y :: r) pre (by simp;omega)
theorem l03In_ev (l:List Sib) (x:Sib) (hl:l.length≤1048576):Ev (fun k=>spec_l03In.f k l x.f0.f0 x.f0.f1 x.f1 x.f2) (insS l x):=l03In_l0 x l [] (by simpa using hl)
theorem seenHas_out {v w:List Mark} {l:List Sib} (hw:seenOk w=true) (h:setOk v l=true):∀ x ∈ l,seenHasOut w x.f0.f0 x.f0.f1=seenHas w x.f0.f0 x.f0.f1:=fun x hx=>by
  have h1:=sibsFrom_mem v l none ((setOk_iff v l).1 h).2.2 x hx
  simp only [sibOk,Bool.and_eq_true] at h1
  simp [seenHasOut,hw,h1.1]
theorem cmpDots_lt (a b c d:Int):decide (cmpDots a b c d<0)=dotLess a b c d:=by
  have h:=cmpDots_ge a b c d
  by_cases h1:cmpDots a b c d<0
  · rw [decide_eq_true h1]
    rw [decide_eq_false (by omega)] at h
    simpa using h
  · rw [decide_eq_false h1]
    rw [decide_eq_true (by omega)] at h
    simpa using h
theorem sorted1_ev (x y:Sib):Ev (fun k=>impl_sorted_1.f k x.f0.f0 x.f0.f1 x.f1 x.f2 y.f0.f0 y.f0.f1 y.f1 y.f2) (cmpDots x.f0.f0 x.f0.f1 y.f0.f0 y.f0.f1):=Ev.bind (compareDots_ev _ _ _ _) (Ev.now _)
theorem set_mid2 (pre:List Sib) (y x:Sib) (q:List Sib):((pre ++ y :: x :: q).set (pre.length+1) y).set pre.length x=pre ++ x :: y :: q:=by
  rw [List.set_append_right _ _ (by omega),List.set_append_right _ _ (by omega)]
  simp
theorem sort_l1 (n i:Int) {R:List Sib} (x:Sib):∀ (r q:List Sib),r.length+q.length≤1048576 →
    Ev (fun k=>slices_insertionSortCmpFunc_impl_Sib_impl_sorted_1.l0 k (insR r x ++ q) 0 n (wrap64 (i+1))) R →
    Ev (fun k=>slices_insertionSortCmpFunc_impl_Sib_impl_sorted_1.l1 k (r.reverse ++ x :: q) 0 n i (r.length:Int)) R
  | [],q,hl,h=>by
    refine Ev.step (f:=fun k=>slices_insertionSortCmpFunc_impl_Sib_impl_sorted_1.j2 k ([].reverse ++ x :: q) 0 n i (([]:List Sib).length:Int) false) (fun k=>?_) (Ev.step (fun k=>?_) h)
    · simp only [slices_insertionSortCmpFunc_impl_Sib_impl_sorted_1.l1]
      rw [if_neg (by simp)]
    · simp only [slices_insertionSortCmpFunc_impl_Sib_impl_sorted_1.j2]
      rw [if_neg (by simp)]
      rfl
  | y :: r,q,hl,h=>by
    simp only [List.length_cons] at hl
    have hL:(y :: r).reverse ++ x :: q=r.reverse ++ y :: x :: q:=by simp
    have hlen:(r.reverse ++ y :: x :: q).length=r.length+(q.length+1+1):=by simp
    have r1:rd_T91 (r.reverse ++ y :: x :: q) ((r.length+1:Nat):Int)=x:=by
      simp only [rd_T91,Int.toNat_natCast]
      rw [show r.reverse ++ y :: x :: q=(r.reverse ++ [y]) ++ x :: q from by simp,show r.length+1=(r.reverse ++ [y]).length from by simp]
      exact getD_midS _ _ _ _
    have r2:rd_T91 (r.reverse ++ y :: x :: q) (r.length:Int)=y:=by
      simp only [rd_T91,Int.toNat_natCast]
      rw [show r.length=r.reverse.length from by simp]
      exact getD_midS _ _ _ _
    have w1:wrap64 (((r.length+1:Nat):Int)-1)=(r.length:Int):=by rw [w64 (by omega) (by omega)];omega
    rw [hL]
    show Ev (fun k=>slices_insertionSortCmpFunc_impl_Sib_impl_sorted_1.l1 k (r.reverse ++ y :: x :: q) 0 n i ((r.length+1:Nat):Int)) R
    refine Ev.step (f:=fun k=>(impl_sorted_1.f k x.f0.f0 x.f0.f1 x.f1 x.f2 y.f0.f0 y.f0.f1 y.f1 y.f2).bind fun t=>slices_insertionSortCmpFunc_impl_Sib_impl_sorted_1.j2 k (r.reverse ++ y :: x :: q) 0 n i ((r.length+1:Nat):Int) (decide (t<0))) (fun k=>?_) (Ev.bind (sorted1_ev x y) ?_)
    · simp only [slices_insertionSortCmpFunc_impl_Sib_impl_sorted_1.l1,w1,r1,r2]
      rw [if_pos (by omega),if_pos (by omega),if_pos (by omega),if_pos (by omega),if_pos (by omega)]
    · rw [cmpDots_lt]
      cases hk:dotLess x.f0.f0 x.f0.f1 y.f0.f0 y.f0.f1 with
      | true =>
        have e:insR (y :: r) x=insR r x ++ [y]:=if_pos hk
        rw [e,List.append_assoc,List.singleton_append] at h
        have ih:=sort_l1 n i x r (y :: q) (by simp;omega) h
        refine Ev.step (fun k=>?_) ih
        simp only [slices_insertionSortCmpFunc_impl_Sib_impl_sorted_1.j2,w1,r1,r2,Int.toNat_natCast]
        rw [if_pos trivial,if_pos (by omega),if_pos (by omega),if_pos (by omega),if_pos (by omega)]
        have:=set_mid2 r.reverse y x q
        rw [List.length_reverse] at this
        rw [this]
      | false =>
        have e:insR (y :: r) x=r.reverse ++ [y,x]:=if_neg (show ¬ ltS x y=true by simp only [ltS,hk];simp)
        rw [e,List.append_assoc] at h
        refine Ev.step (fun k=>?_) h
        simp only [slices_insertionSortCmpFunc_impl_Sib_impl_sorted_1.j2]
        rw [if_neg (by simp)]
        rfl
theorem insF_length (p:List Sib) (x:Sib):(insF p x).length=p.length+1:=by
  unfold insF
  rw [insR_length,List.length_reverse]
theorem sort_l0 (n:Nat) (hn:n≤1048576):∀ (s p:List Sib),p.length+s.length=n →
    Ev (fun k=>slices_insertionSortCmpFunc_impl_Sib_impl_sorted_1.l0 k (p ++ s) 0 (n:Int) (p.length:Int)) (s.foldl insF p)
  | [],p,h=>by
    refine Ev.step (f:=fun _=>some (p ++ [])) (fun k=>?_) (by rw [List.append_nil];exact Ev.now _)
    simp only [slices_insertionSortCmpFunc_impl_Sib_impl_sorted_1.l0]
    simp only [List.length_nil] at h
    rw [if_neg (by omega)]
  | x :: s,p,h=>by
    simp only [List.length_cons] at h
    have ih:=sort_l0 n hn s (insF p x) (by rw [insF_length];omega)
    rw [insF_length] at ih
    have e:=sort_l1 (n:Int) (p.length:Int) (R:=s.foldl insF (insF p x)) x p.reverse s (by simp;omega) (by
      rw [w64 (by omega) (by omega)]
      exact ih)
    rw [List.reverse_reverse,List.length_reverse] at e
    refine Ev.step (fun k=>?_) e
    simp only [slices_insertionSortCmpFunc_impl_Sib_impl_sorted_1.l0]
    rw [if_pos (by omega)]
theorem insertion_ev (l:List Sib) (hl:l.length≤1048576):Ev (fun k=>slices_insertionSortCmpFunc_impl_Sib_impl_sorted_1.f k l 0 (l.length:Int)) (l.foldl insF []):=by
  unfold slices_insertionSortCmpFunc_impl_Sib_impl_sorted_1.f
  rw [show wrap64 (0+1)=1 from (w64 (by omega) (by omega)).trans (by omega)]
  cases l with
  | nil =>
    refine Ev.step (f:=fun _=>some []) (fun k=>?_) (Ev.now _)
    simp only [slices_insertionSortCmpFunc_impl_Sib_impl_sorted_1.l0]
    rw [if_neg (by simp)]
  | cons x s=>exact sort_l0 (x :: s).length hl s [x] (by simp;omega)
set_option maxRecDepth 100000 in
theorem bits_Len64_ev (n:Int) (h0:0≤n) (h1:n<256):∃ r,Ev (fun k=>bits_Len64.f k n) r:=by
  have e1:∀ k,bits_Len64.j1 (k+1) n 0=bits_Len64.j1 1 n 0:=fun k=>by
    rw [bits_Len64.j1,bits_Len64.j1]
  have e:(bits_Len64.j1 1 n 0).isSome=true:=by
    rw [bits_Len64.j1,if_neg (by omega),if_pos (by omega),if_pos (by omega)]
    rfl
  generalize bits_Len64.j1 1 n 0=z at e e1
  obtain ⟨r,rfl⟩:=Option.isSome_iff_exists.1 e
  refine ⟨r,?_⟩
  unfold bits_Len64.f
  exact evNeg (by omega) (Ev.step (f:=fun k=>bits_Len64.j1 k n 0) (fun k=>by rw [bits_Len64.j0,if_neg (by omega)]) (Ev.step (f:=fun _=>some r) e1 (Ev.now _)))
theorem sorted_ev (l:List Sib) (hl:l.length≤8):Ev (fun k=>impl_sorted.f k l) (l.foldl insF []):=by
  have hu:IntKind.u64.wrap (l.length:Int)=(l.length:Int):=by rw [u64w];omega
  obtain ⟨r,hr⟩:=bits_Len64_ev (l.length:Int) (by omega) (by omega)
  refine Ev.bind (f:=fun _ t=>some t) ?_ (Ev.now _)
  unfold slices_SortFunc_impl_Sib_impl_Sib_impl_sorted_1.f
  rw [hu]
  refine Ev.bind (Ev.bind hr (Ev.now _)) (Ev.bind ?_ (Ev.now _))
  refine Ev.step (fun k=>by rw [slices_pdqsortCmpFunc_impl_Sib_impl_sorted_1.f]) (Ev.step (fun k=>by rw [slices_pdqsortCmpFunc_impl_Sib_impl_sorted_1.l0]) (evPos ?_ (Ev.bind (insertion_ev l (by omega)) (Ev.now _))))
  rw [w64 (by omega) (by omega)]
  omega
end Go.Proofs.Ytphbgcfpcadabaa.Q

namespace Go.Proofs.Ytphbgcfpcadabaa.Q
open Go.RowKit Go.Proofs.Ytphbgcfpcadabaa.P Go.Proofs.YtphbgcfpcadabaaW.PrintWords Go.Proofs.YtphbgcfpcadabaaW.PrintMore

theorem insS_all (y:Sib):∀ p:List Sib,(∀ z ∈ p,ltS z y=true)→insS p y=p ++ [y]
  | [],_=>rfl
  | z :: p,h=>by
    simp only [insS]
    rw [if_pos (h z List.mem_cons_self),insS_all y p (fun w hw=>h w (List.mem_cons_of_mem _ hw))]
    rfl
theorem insS_swap (x y:Sib) (q:List Sib) (hq:∀ z ∈ q,ltS z y=true) (ha:Apart x y):insS (insS q x) y=insS (q ++ [y]) x:=by
  rw [insS_snoc x y ha q hq]
  by_cases h:ltS x y=true
  · rw [if_pos h]
    refine insS_all y _ (fun z hz=>?_)
    rcases insS_mem x q z hz with rfl | hz
    · exact h
    · exact hq z hz
  · rw [if_neg h]
    have hyx:=ha.resolve_left h
    rw [insS_all x q (fun z hz=>ltS_trans (hq z hz) hyx),insS_snoc y x (.inl hyx) q (fun z hz=>ltS_trans (hq z hz) hyx),if_pos hyx,insS_all y q hq]
    simp
theorem foldl_put (x:Sib):∀ s q:List Sib,Sorted (q ++ s)→(∀ z ∈ s,Apart x z)→s.foldl insS (insS q x)=insS (q ++ s) x
  | [],q,_,_=>by simp
  | y :: s,q,hs,ha=>by
    have hq:∀ z ∈ q,ltS z y=true:=fun z hz=>(List.pairwise_append.1 hs).2.2 z hz y List.mem_cons_self
    rw [List.foldl_cons,insS_swap x y q hq (ha y List.mem_cons_self),foldl_put x s (q ++ [y]) (by simpa using hs) (fun z hz=>ha z (List.mem_cons_of_mem _ hz))]
    simp
theorem seenOf_small {v:List Mark} (h:Small v) (n:Int):0≤seenOf v n∧seenOf v n≤4294967295:=by
  induction v with
  | nil=>simp [seenOf]
  | cons m r ih =>
    simp only [seenOf]
    split
    · exact (h m List.mem_cons_self).2
    · exact ih (fun x hx=>h x (List.mem_cons_of_mem _ hx))
theorem mx_le (a b:Int):a≤mx a b∧b≤mx a b∧(mx a b=a∨mx a b=b):=by
  unfold mx;split <;> omega
theorem seenOf_joinFrom {a b:List Mark} (ha:Small a) (hb:Small b) (m:Int):∀ (f:Nat) (n:Int),seenOf (joinFrom a b f n) m=if n≤m∧m<n+f then mx (seenOf a m) (seenOf b m) else 0
  | 0,n=>by
    rw [if_neg (by omega)];rfl
  | f+1,n=>by
    have ih:=seenOf_joinFrom ha hb m f (n+1)
    have h1:=seenOf_small ha n
    have h2:=seenOf_small hb n
    have h3:=mx_le (seenOf a n) (seenOf b n)
    simp only [joinFrom]
    by_cases hp:mx (seenOf a n) (seenOf b n)>0
    · rw [if_pos hp]
      simp only [List.singleton_append,seenOf]
      by_cases e:n=m
      · subst e
        rw [if_pos rfl,if_pos (by omega)]
      · rw [if_neg e,ih]
        by_cases hc:n+1≤m∧m<n+1+f
        · rw [if_pos hc,if_pos (by omega)]
        · rw [if_neg hc,if_neg (by omega)]
    · rw [if_neg hp,List.nil_append,ih]
      by_cases e:n=m
      · subst e
        rw [if_neg (by omega),if_pos (by omega)]
        omega
      · by_cases hc:n+1≤m∧m<n+1+f
        · rw [if_pos hc,if_pos (by omega)]
        · rw [if_neg hc,if_neg (by omega)]
def putN (v u:List Mark) (nd:Int):Int:=seenOf (seenJoin v u) nd
theorem putN_is {v u:List Mark} (hv:seenOk v=true) (hu:seenOk u=true) {nd:Int} (hn:isNode nd=true):putN v u nd=mx (seenOf v nd) (seenOf u nd):=by
  have h:=(isNode_iff nd).1 hn
  unfold putN seenJoin
  rw [seenOf_joinFrom (seenOk_small hv) (seenOk_small hu),if_pos (by omega)]
theorem putN_small {v u:List Mark} (hv:seenOk v=true) (hu:seenOk u=true) {nd:Int} (hn:isNode nd=true):0≤putN v u nd∧putN v u nd≤4294967295∧seenOf v nd≤putN v u nd:=by
  rw [putN_is hv hu hn]
  have h1:=seenOf_small (seenOk_small hv) nd
  have h2:=seenOf_small (seenOk_small hu) nd
  have h3:=mx_le (seenOf v nd) (seenOf u nd)
  omega
def restP (l:List Sib) (u:List Mark):List Sib:=l.filter fun x=>!seenHas u x.f0.f0 x.f0.f1
def putX (v u:List Mark) (nd:Int) (t:ByteArray) (g:Bool):Sib:=⟨⟨nd,putN v u nd+1⟩,g,t⟩
theorem restP_length (l:List Sib) (u:List Mark):(restP l u).length≤l.length:=List.length_filter_le _ _
theorem restP_apart {v u:List Mark} {l:List Sib} (hv:setOk v l=true) (hu:seenOk u=true) {nd:Int} (hn:isNode nd=true) (t:ByteArray) (g:Bool):∀ z ∈ restP l u,Apart (putX v u nd t g) z:=by
  intro z hz
  have hz:=(List.mem_filter.1 hz).1
  have h1:=sibsFrom_mem v l none ((setOk_iff v l).1 hv).2.2 z hz
  simp only [sibOk,Bool.and_eq_true] at h1
  have h2:z.f0.f1≤seenOf v z.f0.f0:=of_decide_eq_true h1.2.1
  have h3:=putN_small ((setOk_iff v l).1 hv).1 hu hn
  unfold Apart
  rw [ltS_iff,ltS_iff]
  simp only [putX]
  by_cases e:z.f0.f0=nd
  · rw [e] at h2 ⊢
    omega
  · omega
def putOk (v:List Mark) (l:List Sib) (u:List Mark) (nd:Int) (t:ByteArray) (g:Bool):Bool:=setOk v l && (seenOk u && (isNode nd && dataOk t g))
def setPut (v:List Mark) (l:List Sib) (u:List Mark) (nd:Int) (t:ByteArray) (g:Bool):List Mark × List Sib × Int × Int × Int :=
  if u.length>400∨t.size>8000 then ([],[],0,0,2)
  else if putOk v l u nd t g=true then
    (if putN v u nd≥1000000 then ([],[],0,0,9)
     else if (restP l u).length+1>8 then ([],[],0,0,9)
     else (seenJoin (seenJoin v u) [⟨nd,putN v u nd+1⟩],insS (restP l u) (putX v u nd t g),nd,putN v u nd+1,0))
  else ([],[],0,0,1)
theorem setPut_length (v:List Mark) (l:List Sib) (u:List Mark) (nd:Int) (t:ByteArray) (g:Bool):(setPut v l u nd t g).1.length≤5∧(setPut v l u nd t g).2.1.length≤8:=by
  unfold setPut
  split
  · simp
  · split
    · split
      · simp
      · split
        · simp
        · refine ⟨seenJoin_length _ _,?_⟩
          show (insS (restP l u) (putX v u nd t g)).length≤8
          rw [insS_length]
          omega
    · simp
theorem specPut_l0 (u:List Mark) (nd:Int) (t:ByteArray) (g:Bool) (n:Int) (v:List Mark) (l:List Sib) (jn:List Mark) (hu:u.length≤1048576) (hl:l.length≤8) (hh:∀ x ∈ l,seenHasOut u x.f0.f0 x.f0.f1=seenHas u x.f0.f0 x.f0.f1) {R:List Mark × List Sib × Int × Int × Int}:∀ (s:List Sib) (i:Nat),l.drop i=s→i≤l.length→(∀ x ∈ s,seenHasOut u x.f0.f0 x.f0.f1=seenHas u x.f0.f0 x.f0.f1)→∀ acc:List Sib,acc.length+s.length≤8 →
    Ev (fun k=>(spec_l02Join.f k jn [⟨nd,wrap64 (n+1)⟩]).bind fun a=>(spec_l03In.f k (acc ++ restP s u) nd (wrap64 (n+1)) g t).bind fun b=>if (b.length:Int)>8 then some ([],[],0,0,9) else some (a,b,nd,wrap64 (n+1),0)) R →
    Ev (fun k=>spec_SetPut.l0 k u nd t g n (i:Int) v l jn acc) R
  | [],i,h,hi,_,acc,hc,hR=>by
    have:=dropNil' h hi
    simp only [restP,List.filter_nil,List.append_nil] at hR
    refine Ev.step (fun k=>?_) hR
    simp only [spec_SetPut.l0,spec_l03Ill.f,Option.bind_some]
    rw [if_neg (by omega)]
  | x :: s,i,h,hi,hs,acc,hc,hR=>by
    obtain ⟨h1,h2,h3⟩:=dropCons h z91
    simp only [List.length_cons] at hc
    have hr:rd_T91 l (i:Int)=x:=by simpa [rd_T91] using h2
    refine Ev.step (fun k=>by simp only [spec_SetPut.l0,hr];rw [if_pos (by omega),if_pos (by omega)]) (Ev.bind (spec_SeenHas_ev u _ _ (by omega)) ?_)
    rw [hs x List.mem_cons_self]
    cases hk:seenHas u x.f0.f0 x.f0.f1 with
    | true =>
      have e:restP (x :: s) u=restP s u:=List.filter_cons_of_neg (by simp [hk])
      rw [e] at hR
      have ih:=specPut_l0 u nd t g n v l jn hu hl hh s (i+1) h3 (by omega) (fun y hy=>hs y (List.mem_cons_of_mem _ hy)) acc (by omega) hR
      refine evPos rfl ?_
      rw [w64 (by omega) (by omega)]
      exact ih
    | false =>
      have e:restP (x :: s) u=x :: restP s u:=List.filter_cons_of_pos (by simp [hk])
      rw [e] at hR
      have ih:=specPut_l0 u nd t g n v l jn hu hl hh s (i+1) h3 (by omega) (fun y hy=>hs y (List.mem_cons_of_mem _ hy)) (acc ++ [x]) (by simp;omega) (by rw [List.append_assoc,List.singleton_append];exact hR)
      refine evNeg (by simp) (evPos (by omega) ?_)
      rw [w64 (by omega) (by omega)]
      exact ih
theorem spec_SetPut_ev (v:List Mark) (l:List Sib) (u:List Mark) (nd:Int) (t:ByteArray) (g:Bool) (hv:v.length≤1048576) (hl:l.length≤1048576) (hu:u.length≤1048576) :
    Ev (fun k=>spec_SetPut.f k v l u nd t g) (setPut v l u nd t g):=by
  unfold spec_SetPut.f
  by_cases hz:u.length>400∨t.size>8000
  · have e:setPut v l u nd t g=([],[],0,0,2):=by unfold setPut;rw [if_pos hz]
    rw [e]
    have jT:Ev (fun k=>spec_SetPut.j0 k u nd t g true v l) ([],[],0,0,2):=Ev.step (f:=fun _=>some ([],[],0,0,2)) (fun k=>by simp [spec_SetPut.j0,spec_l03Ill.f]) (Ev.now _)
    by_cases h4:u.length>400
    · exact evPos (by omega) jT
    · have:decide ((t.size:Int)>8000)=true:=decide_eq_true (by omega)
      rw [this]
      exact evNeg (by omega) jT
  · have hz1:¬ u.length>400:=fun h=>hz (.inl h)
    have hz2:¬ t.size>8000:=fun h=>hz (.inr h)
    have hd:decide ((t.size:Int)>8000)=false:=decide_eq_false (by omega)
    rw [hd]
    refine evNeg (by omega) ?_
    have jI:putOk v l u nd t g=false→Ev (fun k=>spec_SetPut.j1 k u nd t g true v l) (setPut v l u nd t g):=fun h=>by
      have e:setPut v l u nd t g=([],[],0,0,1):=by unfold setPut;rw [if_neg hz,if_neg (by simp [h])]
      rw [e]
      exact Ev.step (f:=fun _=>some ([],[],0,0,1)) (fun k=>by simp [spec_SetPut.j1,spec_l03Ill.f]) (Ev.now _)
    have jT:putOk v l u nd t g=true→Ev (fun k=>spec_SetPut.j1 k u nd t g false v l) (setPut v l u nd t g):=fun h=>by
      have hp:=h
      simp only [putOk,Bool.and_eq_true] at hp
      obtain ⟨p1,p2,p3,p4⟩:=hp
      have hl8:=((setOk_iff v l).1 p1).2.1
      have hn:=putN_small ((setOk_iff v l).1 p1).1 p2 p3
      refine Ev.step (fun k=>by simp only [spec_SetPut.j1];rw [if_neg (by simp)]) (Ev.bind (l02Join_ev v u (by omega) (by omega)) (Ev.bind (l02Of_ev (seenJoin v u) nd (by have:=seenJoin_length v u;omega)) ?_))
      show Ev (fun k=>if putN v u nd≥1000000 then _ else _) _
      unfold setPut
      rw [if_neg hz,if_pos h]
      by_cases hf:putN v u nd≥1000000
      · rw [if_pos hf]
        exact evPos hf (Ev.now _)
      · rw [if_neg hf]
        refine evNeg hf (specPut_l0 u nd t g (putN v u nd) v l (seenJoin v u) hu hl8 (seenHas_out p2 p1) l 0 rfl (by omega) (seenHas_out p2 p1) [] (by simpa using hl8) ?_)
        rw [List.nil_append,w64 (by omega) (by omega)]
        have hr:=restP_length l u
        refine Ev.bind (l02Join_ev (seenJoin v u) _ (by have:=seenJoin_length v u;omega) (by simp)) (Ev.bind (l03In_ev (restP l u) (putX v u nd t g) (by omega)) ?_)
        rw [insS_length]
        by_cases h8:(restP l u).length+1>8
        · rw [if_pos h8];exact evPos (by omega) (Ev.now _)
        · rw [if_neg h8];exact evNeg (by omega) (Ev.now _)
    refine Ev.step (fun k=>by simp only [spec_SetPut.j0];rw [if_neg (by simp)]) (Ev.bind (spec_SetRight_ev v l (by omega) hl) ?_)
    cases h1:setOk v l with
    | false=>exact evNeg (by simp) (jI (by simp [putOk,h1]))
    | true =>
      refine evPos rfl (Ev.bind (spec_SeenRight_ev u (by omega)) ?_)
      cases h2:seenOk u with
      | false=>exact evNeg (by simp) (jI (by simp [putOk,h2]))
      | true =>
        refine evPos rfl (evBind1 (l02Node_is _) ?_)
        cases h3:isNode nd with
        | false=>exact evNeg (by simp) (jI (by simp [putOk,h3]))
        | true =>
          refine evPos rfl ?_
          by_cases h4:(t.size:Int)>16
          · exact evPos h4 (jI (by simp [putOk,dataOk];omega))
          · refine evNeg h4 ?_
            cases g with
            | false =>
              refine evNeg (by simp) (jT ?_)
              simp [putOk,h1,h2,h3,dataOk];omega
            | true =>
              refine evPos rfl ?_
              by_cases h5:t.toList=[]
              · have:(t.toList != ([]:List UInt8))=false:=by simp [h5]
                rw [this]
                refine jT ?_
                simp [putOk,h1,h2,h3,dataOk,h5];omega
              · have:(t.toList != ([]:List UInt8))=true:=by simp [h5]
                rw [this]
                refine jI ?_
                simp [putOk,dataOk,h5]
theorem implPut_l0 (u:List Mark) (nd n1:Int) (l:List Sib) (jn:List Mark) (hu:u.length≤1048576) (hl:l.length≤8) {R:List Mark × List Sib × Int × Int × Int}:∀ (s:List Sib) (i:Nat),l.drop i=s→i≤l.length→∀ acc:List Sib,acc.length+s.length≤9 →
    Ev (fun k=>if n1>1000000 then impl_setPut.j2 k jn true nd n1 (acc ++ restP s u) else impl_setPut.j2 k jn (decide (((acc ++ restP s u).length:Int)>8)) nd n1 (acc ++ restP s u)) R →
    Ev (fun k=>impl_setPut.l0 k u jn l (l.length:Int) (i:Int) nd n1 acc) R
  | [],i,h,hi,acc,hc,hR=>by
    have:=dropNil' h hi
    simp only [restP,List.filter_nil,List.append_nil] at hR
    refine Ev.step (fun k=>?_) hR
    simp only [impl_setPut.l0]
    rw [if_neg (by omega)]
  | x :: s,i,h,hi,acc,hc,hR=>by
    obtain ⟨h1,h2,h3⟩:=dropCons h z91
    simp only [List.length_cons] at hc
    have hr:rd_T91 l (i:Int)=x:=by simpa [rd_T91] using h2
    refine Ev.step (fun k=>by simp only [impl_setPut.l0,hr];rw [if_pos (by omega),if_pos (by omega),if_pos (by omega)]) (Ev.bind (seenHas_ev u _ _ (by omega)) ?_)
    cases hk:seenHas u x.f0.f0 x.f0.f1 with
    | true =>
      have e:restP (x :: s) u=restP s u:=List.filter_cons_of_neg (by simp [hk])
      rw [e] at hR
      have ih:=implPut_l0 u nd n1 l jn hu hl s (i+1) h3 (by omega) acc (by omega) hR
      refine evPos rfl ?_
      rw [w64 (by omega) (by omega)]
      exact ih
    | false =>
      have e:restP (x :: s) u=x :: restP s u:=List.filter_cons_of_pos (by simp [hk])
      rw [e] at hR
      have ih:=implPut_l0 u nd n1 l jn hu hl s (i+1) h3 (by omega) (acc ++ [x]) (by simp;omega) (by rw [List.append_assoc,List.singleton_append];exact hR)
      refine evNeg (by simp) (evPos (by omega) ?_)
      rw [w64 (by omega) (by omega)]
      exact ih
theorem impl_setPut_ev (v:List Mark) (l:List Sib) (u:List Mark) (nd:Int) (t:ByteArray) (g:Bool) (hv:v.length≤1048576) (hl:l.length≤1048576) (hu:u.length≤1048576) (hz:¬ (u.length>400∨t.size>8000)) :
    Ev (fun k=>impl_setPut.f k v l u nd t g) (setPut v l u nd t g):=by
  have jI:putOk v l u nd t g=false→Ev (fun k=>impl_setPut.j0 k u nd t g true v l) (setPut v l u nd t g):=fun h=>by
    have e:setPut v l u nd t g=([],[],0,0,1):=by unfold setPut;rw [if_neg hz,if_neg (by simp [h])]
    rw [e]
    exact Ev.step (f:=fun _=>some ([],[],0,0,1)) (fun k=>by simp [impl_setPut.j0]) (Ev.now _)
  unfold impl_setPut.f
  refine Ev.bind (impl_SetRight_ev v l (by omega) hl) ?_
  cases p1:setOk v l with
  | false=>exact evNeg (by simp) (jI (by simp [putOk,p1]))
  | true =>
    refine evPos rfl (Ev.bind (impl_seenRight_ev u (by omega)) ?_)
    cases p2:seenOk u with
    | false=>exact evNeg (by simp) (jI (by simp [putOk,p2]))
    | true =>
      refine evPos rfl (evBind1 (isNode_is _) ?_)
      cases p3:isNode nd with
      | false=>exact evNeg (by simp) (jI (by simp [putOk,p3]))
      | true =>
        refine evPos rfl (evBind1 (isData_is _ _) ?_)
        cases p4:dataOk t g with
        | false=>exact jI (by simp [putOk,p4])
        | true =>
          have h:putOk v l u nd t g=true:=by simp [putOk,p1,p2,p3,p4]
          have hl8:=((setOk_iff v l).1 p1).2.1
          have hn:=putN_small ((setOk_iff v l).1 p1).1 p2 p3
          have hj:=seenJoin_length v u
          refine Ev.step (fun k=>by simp only [impl_setPut.j0];rw [if_neg (by simp)]) (Ev.bind (seenJoin_ev v u (by omega) (by omega)) (Ev.bind (seenOf_ev (seenJoin v u) nd (by omega)) ?_))
          show Ev (fun k=>impl_setPut.l0 k u (seenJoin v u) l (l.length:Int) 0 nd (wrap64 (putN v u nd+1)) [⟨⟨nd,wrap64 (putN v u nd+1)⟩,g,t⟩]) _
          rw [w64 (by omega) (by omega)]
          refine implPut_l0 u nd (putN v u nd+1) l (seenJoin v u) hu hl8 l 0 rfl (by omega) [putX v u nd t g] (by simp;omega) ?_
          have jF:Ev (fun k=>impl_setPut.j2 k (seenJoin v u) true nd (putN v u nd+1) ([putX v u nd t g] ++ restP l u)) ([],[],0,0,9):=Ev.step (f:=fun _=>some ([],[],0,0,9)) (fun k=>by simp [impl_setPut.j2]) (Ev.now _)
          have hr:=restP_length l u
          unfold setPut
          rw [if_neg hz,if_pos h]
          by_cases hf:putN v u nd≥1000000
          · rw [if_pos hf]
            exact evPos (by omega) jF
          · rw [if_neg hf]
            refine evNeg (by omega) ?_
            by_cases h8:(restP l u).length+1>8
            · rw [if_pos h8]
              have:decide ((([putX v u nd t g] ++ restP l u).length:Int)>8)=true:=decide_eq_true (by simp;omega)
              rw [this]
              exact jF
            · rw [if_neg h8]
              have:decide ((([putX v u nd t g] ++ restP l u).length:Int)>8)=false:=decide_eq_false (by simp;omega)
              rw [this]
              have hs:Sorted (restP l u):=(setOk_sorted p1).sublist List.filter_sublist
              have ha:=restP_apart p1 p2 p3 t g
              have e:(putX v u nd t g :: restP l u).foldl insF []=insS (restP l u) (putX v u nd t g):=by
                rw [foldl_same _ [] List.Pairwise.nil (fun _ _ z hz=>by cases hz) (List.pairwise_cons.2 ⟨fun z hz=>(ha z hz).symm,hs.imp (fun h=>.inr h)⟩),List.foldl_cons]
                have:=foldl_put (putX v u nd t g) (restP l u) [] hs ha
                simpa using this
              refine Ev.step (fun k=>by simp only [impl_setPut.j2];rw [if_neg (by simp)]) (Ev.bind (seenJoin_ev (seenJoin v u) _ (by omega) (by simp)) (Ev.bind (sorted_ev (putX v u nd t g :: restP l u) (by simp;omega)) ?_))
              rw [e]
              exact Ev.now _
theorem impl_SetPut_ev (v:List Mark) (l:List Sib) (u:List Mark) (nd:Int) (t:ByteArray) (g:Bool) (hv:v.length≤1048576) (hl:l.length≤1048576) (hu:u.length≤1048576) :
    Ev (fun k=>impl_SetPut.f k v l u nd t g) (setPut v l u nd t g):=by
  unfold impl_SetPut.f impl_isMany_impl_Mark.f
  have jT:(u.length>400∨t.size>8000)→Ev (fun k=>impl_SetPut.j0 k u nd t g true v l) (setPut v l u nd t g):=fun hz=>by
    have e:setPut v l u nd t g=([],[],0,0,2):=by unfold setPut;rw [if_pos hz]
    rw [e]
    exact Ev.step (f:=fun _=>some ([],[],0,0,2)) (fun k=>by simp [impl_SetPut.j0]) (Ev.now _)
  refine evBind1 rfl ?_
  by_cases h4:u.length>400
  · have:decide ((u.length:Int)>400)=true:=decide_eq_true (by omega)
    rw [this]
    exact evPos rfl (jT (.inl h4))
  · have:decide ((u.length:Int)>400)=false:=decide_eq_false (by omega)
    rw [this]
    refine evNeg (by simp) (Ev.bind (isLong1_ev t) ?_)
    by_cases h5:8000<t.size
    · rw [decide_eq_true h5]
      exact jT (.inr h5)
    · rw [decide_eq_false h5]
      exact Ev.step (fun k=>by simp only [impl_SetPut.j0];rw [if_neg (by simp)]) (Ev.bind (impl_setPut_ev v l u nd t g hv hl hu (by omega)) (Ev.now _))
end Go.Proofs.Ytphbgcfpcadabaa.Q

namespace Go.Proofs.Ytphbgcfpcadabaa.Q
open Go.RowKit Go.Proofs.Ytphbgcfpcadabaa.P Go.Proofs.YtphbgcfpcadabaaW.PrintWords Go.Proofs.YtphbgcfpcadabaaW.PrintMore
/-- Of any set: it is too large, or it is small. -/
theorem szSet_small {x:S32} (hw:Go.Proofs.Ytphbgcfpcadabaa.RO.wfT32 x):∃ r,Ev (fun k=>laws_szSet.f k x.f0 x.f1 1048576) r∧r≤1048576∧(¬ r<0→x.f0.length≤1048576∧x.f1.length≤1048576∧∀ y ∈ x.f1,y.f2.size≤1048576):=by
  obtain ⟨r,e1,e2,e3⟩:=szSet_ev x.f0 x.f1 hw.1.1 hw.2.1 (fun y hy=>(hw.2.2 y hy).2.2) 1048576 (by omega) (by omega)
  exact ⟨r,e1,e2,fun h=>e3 (by omega)⟩
end Go.Proofs.Ytphbgcfpcadabaa.Q

namespace Go.Proofs.Ytphbgcfpcadabaa.Pure
open Go.RowKit Go.Proofs.Ytphbgcfpcadabaa.P Go.Proofs.Ytphbgcfpcadabaa.Q Go.Proofs.YtphbgcfpcadabaaW.PrintWords Go.Proofs.YtphbgcfpcadabaaW.PrintMore
theorem FnExactSetPut:laws_FnExactSetPut.Pure:=by
  intro a b nd t g ha hb hnd ht
  have hl_b:b.length≤9223372036854775807:=hb.1
  refine Ev.rounds ?_
  unfold laws_FnExactSetPut.f
  refine evIte (fun _=>Ev.now _) (fun hs=>?_)
  obtain ⟨n,e1,hn1,hn2⟩:=szSet_small ha
  refine Ev.bind e1 (evIte (fun _=>Ev.now _) (fun h0=>?_))
  obtain ⟨va1,la1,lx1⟩:=hn2 h0
  refine evBind1 (szMarkS_is b n (by omega) hn1 hl_b) ?_
  refine evIte (fun _=>Ev.now _) (fun h02=>?_)
  have hb':b.length≤1048576:=by
    split at h02 <;> omega
  have ta:=toSet_ev a.f0 a.f1 va1 la1
  have tb:=toMarkS_ev b hb'
  have ga:(a.f0.map toMark).length≤1048576:=by simpa using va1
  have ga2:(a.f1.map toSib).length≤1048576:=by simpa using la1
  have gb:(b.map toMark).length≤1048576:=by simpa using hb'
  generalize a.f0.map toMark=va at ta ga
  generalize a.f1.map toSib=la at ta ga2
  generalize b.map toMark=u at tb gb
  have s1:=spec_SetPut_ev va la u nd t g ga ga2 gb
  have s2:=impl_SetPut_ev va la u nd t g ga ga2 gb
  have hj:=setPut_length va la u nd t g
  generalize setPut va la u nd t g=r at s1 s2 hj
  obtain ⟨v,l,d1,d2,c⟩:=r
  simp only at hj s1 s2
  refine Ev.bind ta (Ev.bind tb (Ev.bind s1 (Ev.bind ta (Ev.bind tb (Ev.bind s2 (Ev.bind (eqSetOut_ev v l d1 d2 c (by omega) (by omega)) (evPos rfl ?_)))))))
  refine Ev.bind ta (Ev.bind (eqSet_ev va la (by omega) (by omega)) (evPos rfl (Ev.bind tb (Ev.bind (eqMarkS_ev u (by omega)) (evPos rfl ?_)))))
  refine Ev.bind (markSet_ev va la 1 (by omega) (by omega)) (Ev.bind (markMarkS_ev u _ (by omega) (by omega)) (evNeg (by omega) (Ev.bind (eqSetOut_ev v l d1 d2 c (by omega) (by omega)) ?_)))
  refine Ev.step (fun k=>by simp only [laws_FnExactSetPut.j0];rw [if_neg (by simp)]) ?_
  refine Ev.bind (markSetOut_ev v l d1 d2 c 1 (by omega) (by omega)) (Ev.bind (heldSetOut_ev v l d1 d2 c 1 (by omega) (by omega)) (evNeg (by omega) (evPos rfl ?_)))
  refine Ev.bind ta (Ev.bind tb (Ev.bind s2 (Ev.bind (eqSetOut_ev v l d1 d2 c (by omega) (by omega)) (evPos rfl ?_))))
  exact Ev.bind (heldSetOut_ev v l d1 d2 c 1 (by omega) (by omega)) (evNeg (by omega) (evPos rfl (Ev.now _)))
end Go.Proofs.Ytphbgcfpcadabaa.Pure

namespace Go.Proofs.Ytphbgcfpcadabaa.fnExactSetPut
open Go.ChangeShapes Go.WideShapes Go.ChangeAt Go.RowKit Go.Proofs.Ytphbgcfpcadabaa.P Go.Proofs.Ytphbgcfpcadabaa.RO Go.Proofs.Ytphbgcfpcadabaa.Open Go.Proofs.YtphbgcfpcadabaaW.PrintWords
open Go.ChangeMaps (open_string shut_string)
set_option linter.unusedVariables false
theorem own:ownKnob Try.prog.godebug=none:=by kernel_rfl
theorem laidOut:laidOutB Try.prog=true:=by kernel_rfl
set_option maxRecDepth 100000 in
theorem lifted (os:Os) (started:os.Started) (H:Type) (enc:TypeId × Value→H) :
    ReturnsInHanded {} Try.checked os 6 .any (Rows.fnExactSetPutSpec.pre6 enc Try.prog Try.f6 Rows.fnExactSetPutRow.domain false) (Rows.fnExactSetPutSpec.post enc Try.prog Try.f6 false true false false):=by
  refine returnsInHanded_of_change_sized (C:=Try.checked) own started (by kernel_rfl) Try.func6
    (ChangeSpec.witness6 (enc:=enc) (C:=Try.checked) false ⟨#[],#[.agg #[.slice none 0 0,.slice none 0 0],.slice none 0 0,.int .i64 0,.string ByteArray.empty,.bool false],[]⟩ 8 (by kernel_rfl) (by kernel_rfl) (by kernel_rfl) (by kernel_rfl)) ?_
  intro W base args ds gs before hval0 hW hcnd hsz0 _
  have hsz:(DataW.weightsEach Try.prog (Try.f6.params.toList ++ Rows.fnExactSetPutSpec.plain.varTypes Try.prog) (ds ++ gs)).all (· ≤ reachBytes)=true:=hsz0
  have hval:∀ (j:Nat) t v,Try.f6.params[j]? = some t→args[j]? = some v→Value.okWide Try.prog W .any base t v:=hval0
  have hW':=hW
  obtain ⟨p,q,hA0,hV,rfl,hfz,hnd⟩:=hW
  have hA:DataW.TrodAll enc Try.prog W 0 (fun _=>true) true Try.f6.params.toList args.toList ds p:=hA0
  rw [Try.params6] at hA hval hsz
  obtain ⟨v0,vs0,d0,ds0,p0,q0,hargs,rfl,rfl,h0,r0⟩:=trodAll_cons hA
  obtain ⟨v1,vs1,d1,ds1,p1,q1,rfl,rfl,rfl,h1,r1⟩:=trodAll_cons r0
  obtain ⟨v2,vs2,d2,ds2,p2,q2,rfl,rfl,rfl,h2,r2⟩:=trodAll_cons r1
  obtain ⟨v3,vs3,d3,ds3,p3,q3,rfl,rfl,rfl,h3,r3⟩:=trodAll_cons r2
  obtain ⟨v4,vs4,d4,ds4,p4,q4,rfl,rfl,rfl,h4,r4⟩:=trodAll_cons r3
  obtain ⟨rfl,rfl,rfl⟩:=trodAll_nil r4
  obtain rfl:args=#[v0,v1,v2,v3,v4]:=by cases args;simp_all
  obtain ⟨rfl,rfl⟩:=trodVars_none hV
  have k0:=h0
  have lt0:∀ x ∈ p0,x.block<W.heap.size:=by obtain ⟨m,hm⟩:=k0;exact DataW.trod_lt m _ _ _ hm
  obtain ⟨cs0,rfl,_⟩:=okWide_struct Try.underlying32 (hval 0 32 v0 rfl rfl)
  obtain ⟨fuel0,hf0⟩:=h0
  obtain ⟨x0,hk0,w0⟩:=op_T32 hf0
  obtain ⟨A0_0,c0_0,A0_1,c0_1,hcs0,hl0_0,hr0_0,hl0_1,hr0_1⟩:=k32_open hk0
  obtain rfl:cs0=#[.slice A0_0 x0.f0.length c0_0,.slice A0_1 x0.f1.length c0_1]:=Array.toList_inj.1 hcs0
  have k1:=h1
  have lt1:∀ x ∈ p1,x.block<W.heap.size:=by obtain ⟨m,hm⟩:=k1;exact DataW.trod_lt m _ _ _ hm
  obtain ⟨a1,len1,cap1,rfl⟩:=okWide_slice Try.underlying29 (hval 1 29 v1 rfl rfl)
  obtain ⟨fuel1,hf1⟩:=h1
  obtain ⟨x1,hk1,w1⟩:=(opens_slice Try.underlying29 (by kernel_rfl) op_T100) hf1
  obtain ⟨A1,c1,hcs1,hl1,hr1⟩:=hk1
  simp only [Value.cells] at hcs1
  injection hcs1 with hcs1 _
  injection hcs1 with e1_1 e2_1 e3_1
  subst e1_1 e2_1 e3_1
  obtain ⟨x2,rfl,rfl,rfl,w2⟩:=open_int Try.underlying2 (hval 2 2 v2 rfl rfl) h2
  obtain ⟨x3,rfl,rfl,rfl,y3⟩:=open_string Try.underlying9 (hval 3 9 v3 rfl rfl) h3
  have w3:x3.size≤140737488351232:=by
    have z:=sized_string hsz (j:=3) (t:=9) rfl rfl
    rw [Array.length_toList] at z
    exact z
  obtain ⟨x4,rfl,rfl,rfl⟩:=open_bool Try.underlying4 (hval 4 4 v4 rfl rfl) h4
  clear hA0 hval0 hsz0 hsz
  obtain ⟨k,hp⟩:=Pure.FnExactSetPut x0 x1 x2 x3 x4 w0 w1 w2 w3
  refine (P.laws_FnExactSetPut.calls k _ _ x0.f0 _ _ x0.f1 _ _ x1 x2 x3 x4 true W hr0_0 hl0_0 hr0_1 hl0_1 hr1 hl1 hp).mono fun e W' ⟨he,bel0⟩=>?_
  have bel:Below W.heap.size W W':=bel0
  subst he
  exact ⟨_,rfl,_,_,_,[],_,[],hW',trodAll_mk1 (shut_bool Try.underlying4 _),(trodAll_cons_mk (Below.trod laidOut (by kernel_rfl) (of_decide_eq_true (by kernel_rfl)) k0 bel lt0) (trodAll_cons_mk (Below.trod laidOut (by kernel_rfl) (of_decide_eq_true (by kernel_rfl)) k1 bel lt1) (trodAll_cons_mk (shut_int Try.underlying2 w2) (trodAll_cons_mk (shut_string Try.underlying9 y3) (trodAll_cons_mk (shut_bool Try.underlying4 _) trodAll_mk0))))),rfl,bel.frame _,fun h=>by cases h⟩
theorem over:Rows.fnExactSetPutRow.holds Try.pinned (OpenSpec.ofChange Rows.fnExactSetPutSpec) :=
  OpenClaim.holds_of_wide 6 Try.f6 rfl rfl rfl rfl rfl rfl rfl ⟨rfl,rfl,rfl,rfl,rfl⟩ rfl rfl rfl rfl rfl (by kernel_rfl) Try.func6 (by kernel_rfl)
    (of_decide_eq_true (by kernel_rfl)) (by unfold Func.isWrapper;first | (rw [if_pos (by decide +kernel)];kernel_rfl) | (rw [if_neg (by decide +kernel)];exact ⟨rfl,rfl⟩))
    (fun os started H enc _=>lifted os started H enc)
theorem proved:Rows.FnExactSetPutSaid:=over
#print axioms proved
end Go.Proofs.Ytphbgcfpcadabaa.fnExactSetPut
namespace Go.Proofs.Ytphbgcfpcadabaa
/-- The row, under a short name, for the claim. -/
theorem fnExactSetPut_holds:Rows.FnExactSetPutSaid:=fnExactSetPut.proved
end Go.Proofs.Ytphbgcfpcadabaa
