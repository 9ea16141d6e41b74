/- For all rings, keys, numbers and lists of nodes that are down the program's StandIns and the reference's return the same, of memory of its own, and leave what they are given. No condition. (Part 2 of 5: written by programs of this workplace and by hand, merged.) -/
import Derived.Test.YtelanedlpedfcaaDoorMFnExactStandInsa
set_option linter.unusedVariables false
set_option linter.unusedSimpArgs false

namespace Go.Proofs.YtelanedlpedfcaaDoor.P
open Go.RowKit Go.Proofs.YtelanedlpedfcaaDoorW.PrintWords Go.Proofs.YtelanedlpedfcaaDoorW.PrintLast Go.Proofs.YtelanedlpedfcaaDoorW.PrintMore
attribute [local go_sem] max2_int min2_int max_two min_two max_three min_three max_four min_four   -- for this text's walks alone
set_option linter.unusedVariables false
set_option linter.unusedSimpArgs false

/-! ### spec_l04Order: function 37 -/
mutual
def spec_l04Order.l0:Nat→Int→Int→Int→List (S59)→Option (List Int)
 | 0,_,_,_,_=>none
 | k+1,x5,x6,x187000,x187001=>if x6<(x187001.length:Int) then (if 0≤x6 then (spec_l04Order.j1 k x5 x6 (decide (((rd_T59 x187001 x6).f0)<x5)) x187000 x187001) else (none)) else (spec_l04Order.j1 k x5 x6 false x187000 x187001)
def spec_l04Order.j1:Nat→Int→Int→Bool→Int→List (S59)→Option (List Int)
 | 0,_,_,_,_,_=>none
 | k+1,x5,x6,x26,x187000,x187001=>if x26=true then (spec_l04Order.l0 k x5 (wrap64 (x6+1)) x187000 x187001) else (spec_l04Order.l1 k x6 (([]:List Int)) 0 x187000 x187001)
def spec_l04Order.l1:Nat→Int→List Int→Int→Int→List (S59)→Option (List Int)
 | 0,_,_,_,_,_=>none
 | k+1,x6,x7,x8,x187000,x187001=>if x8<(x187001.length:Int) then (if (x187001.length:Int)=0 then (none) else (if 0≤(Int.tmod (wrap64 (x6+x8)) (x187001.length:Int)) then (if (Int.tmod (wrap64 (x6+x8)) (x187001.length:Int))<(x187001.length:Int) then ((spec_l04Among.f k x7 ((rd_T59 x187001 (Int.tmod (wrap64 (x6+x8)) (x187001.length:Int))).f1)).bind fun t193=>(if t193=true then (spec_l04Order.l1 k x6 x7 (wrap64 (x8+1)) x187000 x187001) else (if x7.length<17592186044416 then (spec_l04Order.l1 k x6 (x7 ++ [(rd_T59 x187001 (Int.tmod (wrap64 (x6+x8)) (x187001.length:Int))).f1]) (wrap64 (x8+1)) x187000 x187001) else (none)))) else (none)) else (none))) else (some x7)
end
def spec_l04Order.f (k:Nat) (a0_0:Int) (l0_1:List (S59)) (a1:ByteArray):Option (List Int):=(spec_l04Fnv.f k a1).bind fun t187=>(spec_l04Order.l0 k t187 0 a0_0 l0_1)
theorem spec_l04Order.mono_l:∀ k,(∀ y0 y1 y2 y3,LeO (spec_l04Order.l0 k y0 y1 y2 y3) (spec_l04Order.l0 (k+1) y0 y1 y2 y3))∧(∀ y0 y1 y2 y3 y4,LeO (spec_l04Order.j1 k y0 y1 y2 y3 y4) (spec_l04Order.j1 (k+1) y0 y1 y2 y3 y4))∧(∀ y0 y1 y2 y3 y4,LeO (spec_l04Order.l1 k y0 y1 y2 y3 y4) (spec_l04Order.l1 (k+1) y0 y1 y2 y3 y4))
 | 0=>⟨fun _ _ _ _ r h=>by simp [spec_l04Order.l0] at h,fun _ _ _ _ _ r h=>by simp [spec_l04Order.j1] at h,fun _ _ _ _ _ r h=>by simp [spec_l04Order.l1] at h⟩
 | k+1=>by
  obtain ⟨ih0,ih1,ih2⟩:=spec_l04Order.mono_l k
  refine ⟨?_,?_,?_⟩
  ·intro y0 y1 y2 y3
   unfold spec_l04Order.l0
   repeat' first
   | (with_reducible exact ih0 _ _ _ _)
   | (with_reducible exact ih1 _ _ _ _ _)
   | (with_reducible exact ih2 _ _ _ _ _)
   | (with_reducible exact spec_l04Among.mono _ _ _)
   | (with_reducible exact spec_l04Fnv.mono _ _)
   | (with_reducible exact LeO.refl _)
   | (with_reducible exact LeO.none _)
   | (with_reducible refine LeO.ite ?_ ?_)
   | (with_reducible refine LeO.bind ?_ (fun _=>?_))
   | exact ih0 _ _ _ _
   | exact ih1 _ _ _ _ _
   | exact ih2 _ _ _ _ _
   | exact spec_l04Among.mono _ _ _
   | exact spec_l04Fnv.mono _ _
   | exact LeO.none _
   | refine LeO.ite ?_ ?_
   | refine LeO.bind ?_ (fun _=>?_)
  ·intro y0 y1 y2 y3 y4
   unfold spec_l04Order.j1
   repeat' first
   | (with_reducible exact ih0 _ _ _ _)
   | (with_reducible exact ih1 _ _ _ _ _)
   | (with_reducible exact ih2 _ _ _ _ _)
   | (with_reducible exact spec_l04Among.mono _ _ _)
   | (with_reducible exact spec_l04Fnv.mono _ _)
   | (with_reducible exact LeO.refl _)
   | (with_reducible exact LeO.none _)
   | (with_reducible refine LeO.ite ?_ ?_)
   | (with_reducible refine LeO.bind ?_ (fun _=>?_))
   | exact ih0 _ _ _ _
   | exact ih1 _ _ _ _ _
   | exact ih2 _ _ _ _ _
   | exact spec_l04Among.mono _ _ _
   | exact spec_l04Fnv.mono _ _
   | exact LeO.none _
   | refine LeO.ite ?_ ?_
   | refine LeO.bind ?_ (fun _=>?_)
  ·intro y0 y1 y2 y3 y4
   unfold spec_l04Order.l1
   repeat' first
   | (with_reducible exact ih0 _ _ _ _)
   | (with_reducible exact ih1 _ _ _ _ _)
   | (with_reducible exact ih2 _ _ _ _ _)
   | (with_reducible exact spec_l04Among.mono _ _ _)
   | (with_reducible exact spec_l04Fnv.mono _ _)
   | (with_reducible exact LeO.refl _)
   | (with_reducible exact LeO.none _)
   | (with_reducible refine LeO.ite ?_ ?_)
   | (with_reducible refine LeO.bind ?_ (fun _=>?_))
   | exact ih0 _ _ _ _
   | exact ih1 _ _ _ _ _
   | exact ih2 _ _ _ _ _
   | exact spec_l04Among.mono _ _ _
   | exact spec_l04Fnv.mono _ _
   | exact LeO.none _
   | refine LeO.ite ?_ ?_
   | refine LeO.bind ?_ (fun _=>?_)
theorem spec_l04Order.mono:∀ a0 a1 a2 k,LeO (spec_l04Order.f k a0 a1 a2) (spec_l04Order.f (k+1) a0 a1 a2):=by
 intro a0 a1 a2 k
 obtain ⟨ih0,ih1,ih2⟩:=spec_l04Order.mono_l k
 unfold spec_l04Order.f
 repeat' first
   | (with_reducible exact ih0 _ _ _ _)
   | (with_reducible exact ih1 _ _ _ _ _)
   | (with_reducible exact ih2 _ _ _ _ _)
   | (with_reducible exact spec_l04Among.mono _ _ _)
   | (with_reducible exact spec_l04Fnv.mono _ _)
   | (with_reducible exact LeO.refl _)
   | (with_reducible exact LeO.none _)
   | (with_reducible refine LeO.ite ?_ ?_)
   | (with_reducible refine LeO.bind ?_ (fun _=>?_))
   | exact ih0 _ _ _ _
   | exact ih1 _ _ _ _ _
   | exact ih2 _ _ _ _ _
   | exact spec_l04Among.mono _ _ _
   | exact spec_l04Fnv.mono _ _
   | exact LeO.none _
   | refine LeO.ite ?_ ?_
   | refine LeO.bind ?_ (fun _=>?_)
set_option maxHeartbeats 8000000 in
set_option maxRecDepth 100000 in
theorem spec_l04Order.calls (k:Nat) (a0_0:Int) (A0_1:Option Addr) (c0_1:Nat) (l0_1:List (S59)) (a1:ByteArray) (r:List Int) (w:World) (hr0_1:Kd.C k59 w A0_1 l0_1.length l0_1) (hc0_1:l0_1.length≤c0_1) (h:spec_l04Order.f k a0_0 l0_1 a1=some r) :
  Calls Tryd.prog 37 #[.agg #[.int .i64 a0_0,.slice A0_1 l0_1.length c0_1],.string a1] w fun e w'=>∃ v0_:Value,e = .returned (v0_)∧Kd.R (Kd.int .i64) 2 w' w.heap.size (fun _=>True) v0_ r∧Below w.heap.size w w':=by
 have hu30:=Tryd.underlying30
 have HR0_1:=Aside0.mk hr0_1
 have HC0_1:=Aside0.mk hc0_1
 clear hr0_1 hc0_1
 have HB:=Aside0.mk (Below.refl w.heap.size w)
 have H:((spec_l04Fnv.f k a1).bind fun t187=>(spec_l04Order.l0 k t187 0 a0_0 l0_1))=some r:=h
 clear h
 replace H:=Option.bind_eq_some_iff.mp H
 obtain ⟨t187,A30,H⟩:=H
 replace H:(spec_l04Order.l0 k t187 0 a0_0 l0_1)=some r:=H
 have A3:=Aside0.mk A30
 clear A30
 have H':=Aside0.mk H
 clear H
 go_enter Tryd.func37,Tryd.ntmps37
 go_wp2_with (first | ((with_reducible refine gd_ 2 ?_);refine be_ 2 #[.int .i64 a0_0,.slice A0_1 l0_1.length c0_1] 30 ?_;intro gb186 hg w4 hbox hb;refine as4_ (below_step (z6_ HB.out) hb) (hbox) ((z8_ HB.out:w.heap.size≤gb186)) ((z8_ HB.out:w.heap.size≤gb186)) ?_;clear HB;intro HB BK186 GW186 GE186;clear hb hbox hg) | (go_at_call 53;(with_reducible refine (spec_l04Fnv.calls k a1 t187 _ A3.out).mono ?_);rintro e w' ⟨rfl,⟨nd,rfl⟩⟩;(try first | exact ⟨rfl,_,World.drewN_drewN _ _ _⟩ | exact ⟨rfl,_,Eq.trans (World.drewN_drewN _ _ _) (congrArg (World.drewN _) (Nat.add_assoc _ _ _))⟩)))
 repeat (go_quiet (first | ((with_reducible refine gd_ 2 ?_);refine be_ 2 #[.int .i64 a0_0,.slice A0_1 l0_1.length c0_1] 30 ?_;intro gb186 hg w4 hbox hb;refine as4_ (below_step (z6_ HB.out) hb) (hbox) ((z8_ HB.out:w.heap.size≤gb186)) ((z8_ HB.out:w.heap.size≤gb186)) ?_;clear HB;intro HB BK186 GW186 GE186;clear hb hbox hg) | (go_at_call 53;(with_reducible refine (spec_l04Fnv.calls k a1 t187 _ A3.out).mono ?_);rintro e w' ⟨rfl,⟨nd,rfl⟩⟩;(try first | exact ⟨rfl,_,World.drewN_drewN _ _ _⟩ | exact ⟨rfl,_,Eq.trans (World.drewN_drewN _ _ _) (congrArg (World.drewN _) (Nat.add_assoc _ _ _))⟩)));try go_wp2_with (first | ((with_reducible refine gd_ 2 ?_);refine be_ 2 #[.int .i64 a0_0,.slice A0_1 l0_1.length c0_1] 30 ?_;intro gb186 hg w4 hbox hb;refine as4_ (below_step (z6_ HB.out) hb) (hbox) ((z8_ HB.out:w.heap.size≤gb186)) ((z8_ HB.out:w.heap.size≤gb186)) ?_;clear HB;intro HB BK186 GW186 GE186;clear hb hbox hg) | (go_at_call 53;(with_reducible refine (spec_l04Fnv.calls k a1 t187 _ A3.out).mono ?_);rintro e w' ⟨rfl,⟨nd,rfl⟩⟩;(try first | exact ⟨rfl,_,World.drewN_drewN _ _ _⟩ | exact ⟨rfl,_,Eq.trans (World.drewN_drewN _ _ _) (congrArg (World.drewN _) (Nat.add_assoc _ _ _))⟩))))
 go_loopg [6] k (fun kq v6 w'=>∃ (x6_1:Int),v6 = .int .i64 x6_1∧Aside0 (spec_l04Order.l0 kq t187 x6_1 a0_0 l0_1=some r)∧Aside0 (kq≤k)∧Aside0 (w'.heap[gb186]? = some (.cells #[.int .i64 a0_0,(.slice A0_1 l0_1.length c0_1)] 30 (0,0)))∧Aside0 (Below w.heap.size w w'))
 case atStart=>exact ⟨(0),(z1_),H',⟨Nat.le_refl _⟩,⟨z3_ BK186.out⟩,⟨z4_ HB.out GE186.out⟩⟩
 case round =>
  clear H'
  try clear p2
  try clear c3
  obtain ⟨x6_1,rfl,HA,HK1,BK186,HB⟩:=hrel
  cases gk with
  | zero=>exact absurd HA.out (by simp [spec_l04Order.l0])
  | succ k1 =>
   have H:=HA.out
   clear HA
   simp only [spec_l04Order.l0] at H
   have HC5:=Aside0.mk H
   clear H
   go_upto_region 3 with (fail)
   repeat (go_quiet (fail);go_upto_region 3 with (fail))
   go_cut [26] (fun v26 wc=>∃ (kq:Nat) (x26_4:Bool),v26 = .bool x26_4∧Aside0 (spec_l04Order.j1 kq t187 x6_1 x26_4 a0_0 l0_1=some r)∧Aside0 (kq≤k1)∧Aside0 (wc.heap[gb186]? = some (.cells #[.int .i64 a0_0,(.slice A0_1 l0_1.length c0_1)] 30 (0,0)))∧Aside0 (Below w.heap.size w wc))
   case first =>
    have H:=HC5.out
    clear HC5
    by_cases c6:x6_1<(l0_1.length:Int)
    ·rw [if_pos c6] at H
     have c6b0:decide (x6_1<(l0_1.length:Int))=true:=decide_eq_true c6
     clear c6
     (first | rw [c6b0] | (simp only [i64_w,i32_w];rw [c6b0]) | skip)
     by_cases c7:0≤x6_1
     ·rw [if_pos c7] at H
      have c7b0:decide (0≤x6_1)=true:=decide_eq_true c7
      clear c7
      have H':=Aside0.mk H
      clear H
      have ⟨hcz8_0,hcz8_1,hfz8_0,hfz8_1⟩:=cz2_ BK186.out
      have p188:0≤(x6_1:Int):=of_decide_eq_true (z0_)
      have q188:x6_1<(l0_1.length:Int):=of_decide_eq_true (z0_)
      obtain ⟨ad188,e188,hx188_0,hx188_1⟩:=at_T59 HR0_1.out x6_1 p188 q188
      cases e188
      replace hx188_0:=(HB.out.cell (World.block_lt_of_cell? w _ hx188_0)).trans hx188_0
      replace hx188_1:=(HB.out.cell (World.block_lt_of_cell? w _ hx188_1)).trans hx188_1
      replace p188:=eq_true p188
      replace q188:=eq_true q188
      go_wp2
      repeat (go_quiet (fail);try go_wp2)
      go_meet
      case rel=>exact ⟨_,(decide (((rd_T59 l0_1 x6_1).f0)<t187)),(z1_),H',⟨z15_ HK1.out⟩,⟨z3_ BK186.out⟩,⟨z4_ HB.out GE186.out⟩⟩
     ·rw [if_neg c7] at H
      exact absurd H (by simp)
    ·rw [if_neg c6] at H
     have c6b0:decide (x6_1<(l0_1.length:Int))=false:=decide_eq_false c6
     clear c6
     (first | rw [c6b0] | (simp only [i64_w,i32_w];rw [c6b0]) | skip)
     have H':=Aside0.mk H
     clear H
     have ⟨hcz9_0,hcz9_1,hfz9_0,hfz9_1⟩:=cz2_ BK186.out
     go_wp2
     repeat (go_quiet (fail);try go_wp2)
     go_meet
     case rel=>exact ⟨_,(false),(z1_),H',⟨z15_ HK1.out⟩,⟨z3_ BK186.out⟩,⟨z4_ HB.out GE186.out⟩⟩
   case rest =>
    clear HC5
    try clear p1
    try clear q1
    try clear hx1
    try clear p2
    try clear c3
    try clear c6
    try clear c6b0
    try clear c7
    try clear c7b0
    try clear hcz8_0
    try clear hcz8_1
    try clear hcz9_0
    try clear hcz9_1
    try clear hfz8_0
    try clear hfz8_1
    try clear hfz9_0
    try clear hfz9_1
    try clear hx188_0
    try clear hx188_1
    try clear p188
    try clear p2
    try clear q188
    obtain ⟨kq,x26_4,rfl,HA,HJ4,BK186,HB⟩:=hcut
    cases kq with
    | zero=>exact absurd HA.out (by simp [spec_l04Order.j1])
    | succ kj4 =>
     have H:=HA.out
     clear HA
     simp only [spec_l04Order.j1] at H
     by_cases c10:x26_4=true
     ·subst c10
      have H1:(spec_l04Order.l0 kj4 t187 (wrap64 (x6_1+1)) a0_0 l0_1)=some r:=by rw [if_pos rfl] at H;exact H
      clear H
      have H:=H1
      clear H1
      have H':=Aside0.mk H
      clear H
      go_wp2
      repeat (go_quiet (fail);try go_wp2)
      go_roundg kj4
      case measure=>have:=HK1.out;have:=HJ4.out;omega
      case rel=>exact ⟨(wrap64 (x6_1+1)),(z1_),H',⟨z13_ HK1.out HJ4.out⟩,⟨z3_ BK186.out⟩,⟨z4_ HB.out GE186.out⟩⟩
     ·replace c10:=Bool.eq_false_iff.mpr c10
      subst c10
      have H1:(spec_l04Order.l1 kj4 x6_1 (([]:List Int)) 0 a0_0 l0_1)=some r:=by rw [if_neg (show ¬ (false=true) by decide)] at H;exact H
      clear H
      have H:=H1
      clear H1
      obtain ⟨y189,hy189⟩:∃ y_:List Int,y_=(([]:List Int)):=⟨_,rfl⟩
      replace H:(spec_l04Order.l1 kj4 x6_1 y189 0 a0_0 l0_1)=some r:=by first | (rw [hy189];with_reducible exact H) | (have H2_:=(Option.bind_some _ _).symm.trans H;rw [hy189];with_reducible exact H2_) | (have H2_:=(Option.bind_some _ _).symm.trans H;with_reducible exact H2_) | with_reducible exact H | (rw [hy189];exact H) | exact H
      have Ny189:=Aside0.mk hy189
      clear hy189
      have H':=Aside0.mk H
      clear H
      go_wp2_with (first | ((with_reducible refine gd_ 29 ?_);refine Kd.R_lit (Kd.int .i64) _ 2 ?hg (N:=29) ?hd (xs:=([]:List Int)) (inner:=[]) (ok:=fun _=>True) (okp:=fun _=>True) ?hr ?hp (fun _ hk=>hk) trivial (Below.refl _ _) (Nat.le_refl _) (by simp) ?_;(case hd=>rfl);(case hg=>rfl);(case hr=>first | (go_simp;done) | (go_simp;rfl));(case hp=>exact (Reps.none _ _));intro v190 w11 ho12 hb hg_ hnew_;clear hg_ hnew_;(first | rw [← Ny189.out] at ho12 | (simp only [Int.reduceToNat] at ho12;rw [← Ny189.out] at ho12));refine as3_ (Kd.R_lower ho12 (below_size (z4_ HB.out GE186.out))) (blkB_ BK186.out hb) (below_step (z4_ HB.out GE186.out) hb) ?_;clear BK186 HB;intro HO191 BK186 HB;clear hb ho12))
      repeat (go_quiet (first | ((with_reducible refine gd_ 29 ?_);refine Kd.R_lit (Kd.int .i64) _ 2 ?hg (N:=29) ?hd (xs:=([]:List Int)) (inner:=[]) (ok:=fun _=>True) (okp:=fun _=>True) ?hr ?hp (fun _ hk=>hk) trivial (Below.refl _ _) (Nat.le_refl _) (by simp) ?_;(case hd=>rfl);(case hg=>rfl);(case hr=>first | (go_simp;done) | (go_simp;rfl));(case hp=>exact (Reps.none _ _));intro v190 w11 ho12 hb hg_ hnew_;clear hg_ hnew_;(first | rw [← Ny189.out] at ho12 | (simp only [Int.reduceToNat] at ho12;rw [← Ny189.out] at ho12));refine as3_ (Kd.R_lower ho12 (below_size (z4_ HB.out GE186.out))) (blkB_ BK186.out hb) (below_step (z4_ HB.out GE186.out) hb) ?_;clear BK186 HB;intro HO191 BK186 HB;clear hb ho12));try go_wp2_with (first | ((with_reducible refine gd_ 29 ?_);refine Kd.R_lit (Kd.int .i64) _ 2 ?hg (N:=29) ?hd (xs:=([]:List Int)) (inner:=[]) (ok:=fun _=>True) (okp:=fun _=>True) ?hr ?hp (fun _ hk=>hk) trivial (Below.refl _ _) (Nat.le_refl _) (by simp) ?_;(case hd=>rfl);(case hg=>rfl);(case hr=>first | (go_simp;done) | (go_simp;rfl));(case hp=>exact (Reps.none _ _));intro v190 w11 ho12 hb hg_ hnew_;clear hg_ hnew_;(first | rw [← Ny189.out] at ho12 | (simp only [Int.reduceToNat] at ho12;rw [← Ny189.out] at ho12));refine as3_ (Kd.R_lower ho12 (below_size (z4_ HB.out GE186.out))) (blkB_ BK186.out hb) (below_step (z4_ HB.out GE186.out) hb) ?_;clear BK186 HB;intro HO191 BK186 HB;clear hb ho12)))
      go_loopg [7,8] kj4 (fun kq v7 v8 w'=>∃ (x7_3:List Int) (x8_3:Int),v8 = .int .i64 x8_3∧Aside0 (spec_l04Order.l1 kq x6_1 x7_3 x8_3 a0_0 l0_1=some r)∧Aside0 (kq≤kj4)∧Aside0 (Kd.R (Kd.int .i64) 2 w' w.heap.size (fun _=>True) v7 x7_3)∧Aside0 (w'.heap[gb186]? = some (.cells #[.int .i64 a0_0,(.slice A0_1 l0_1.length c0_1)] 30 (0,0)))∧Aside0 (Below w.heap.size w w'))
      case atStart=>exact ⟨(y189),(0),(z1_),H',⟨Nat.le_refl _⟩,⟨z2_ HO191.out⟩,⟨z3_ BK186.out⟩,⟨z4_ HB.out GE186.out⟩⟩
      case round =>
       clear H'
       try clear c1
       try clear p1
       try clear q1
       try clear hx1
       try clear p2
       try clear c3
       try clear c6
       try clear c6b0
       try clear p6
       try clear c7
       try clear c7b0
       try clear c10
       try clear hcz8_0
       try clear hcz8_1
       try clear hcz9_0
       try clear hcz9_1
       try clear hfz8_0
       try clear hfz8_1
       try clear hfz9_0
       try clear hfz9_1
       try clear hx188_0
       try clear hx188_1
       try clear p1
       try clear p188
       try clear p2
       try clear q1
       try clear q188
       obtain ⟨x7_3,x8_3,rfl,HA,HK3,HO_7,BK186,HB⟩:=hrel
       cases gk with
       | zero=>exact absurd HA.out (by simp [spec_l04Order.l1])
       | succ k3 =>
        have H:=HA.out
        clear HA
        simp only [spec_l04Order.l1] at H
        by_cases c13:x8_3<(l0_1.length:Int)
        ·rw [if_pos c13] at H
         have c13b0:decide (x8_3<(l0_1.length:Int))=true:=decide_eq_true c13
         clear c13
         by_cases c14:(l0_1.length:Int)=0
         ·rw [if_pos c14] at H
          exact absurd H (by simp)
         ·rw [if_neg c14] at H
          have c14b0:((l0_1.length:Int) == 0)=false:=beq_eq_false_iff_ne.mpr c14
          have c14b1:((l0_1.length:Int) != 0)=true:=bne_iff_ne.mpr c14
          have c14b2:¬ (l0_1=[]):=fun h_=>c14 (by rw [h_];rfl)
          obtain ⟨ji15,hji15⟩:∃ j_:Int,(Int.tmod (wrap64 (x6_1+x8_3)) (l0_1.length:Int))=j_:=⟨_,rfl⟩
          replace H:(if 0≤(ji15) then (if (ji15)<(l0_1.length:Int) then ((spec_l04Among.f k3 x7_3 ((rd_T59 l0_1 (ji15)).f1)).bind fun t193=>(if t193=true then (spec_l04Order.l1 k3 x6_1 x7_3 (wrap64 (x8_3+1)) a0_0 l0_1) else (if x7_3.length<17592186044416 then (spec_l04Order.l1 k3 x6_1 (x7_3 ++ [(rd_T59 l0_1 (ji15)).f1]) (wrap64 (x8_3+1)) a0_0 l0_1) else (none)))) else (none)) else (none))=some r:=by first | (rw [hji15] at H;exact H) | (simp only [hji15] at H ⊢;exact H)
          by_cases c16:0≤(ji15)
          ·rw [if_pos c16] at H
           have c16b0:decide (0≤(ji15))=true:=decide_eq_true c16
           clear c16
           by_cases c17:(ji15)<(l0_1.length:Int)
           ·rw [if_pos c17] at H
            have c17b0:decide ((ji15)<(l0_1.length:Int))=true:=decide_eq_true c17
            clear c17
            replace H:=Option.bind_eq_some_iff.mp H
            obtain ⟨t193,A180,H⟩:=H
            replace H:(if t193=true then (spec_l04Order.l1 k3 x6_1 x7_3 (wrap64 (x8_3+1)) a0_0 l0_1) else (if x7_3.length<17592186044416 then (spec_l04Order.l1 k3 x6_1 (x7_3 ++ [(rd_T59 l0_1 (ji15)).f1]) (wrap64 (x8_3+1)) a0_0 l0_1) else (none)))=some r:=H
            have A18:=Aside0.mk A180
            clear A180
            by_cases c19:t193=true
            ·subst c19
             have H1:(spec_l04Order.l1 k3 x6_1 x7_3 (wrap64 (x8_3+1)) a0_0 l0_1)=some r:=by rw [if_pos rfl] at H;exact H
             clear H
             have H:=H1
             clear H1
             have H':=Aside0.mk H
             clear H
             have ⟨hcz20_0,hcz20_1,hfz20_0,hfz20_1⟩:=cz2_ BK186.out
             have p192:0≤((ji15):Int):=of_decide_eq_true (z0_)
             have q192:(ji15)<(l0_1.length:Int):=of_decide_eq_true (z0_)
             obtain ⟨ad192,e192,hx192_0,hx192_1⟩:=at_T59 HR0_1.out (ji15) p192 q192
             cases e192
             replace hx192_0:=(HB.out.cell (World.block_lt_of_cell? w _ hx192_0)).trans hx192_0
             replace hx192_1:=(HB.out.cell (World.block_lt_of_cell? w _ hx192_1)).trans hx192_1
             replace p192:=eq_true p192
             replace q192:=eq_true q192
             obtain ⟨Ao21,co21,eo21⟩:=Kd.R_slice HO_7.out
             subst eo21
             go_wp2_with (first | (go_at_call 22;(with_reducible refine (spec_l04Among.calls k3 _ _ x7_3 ((rd_T59 l0_1 (ji15)).f1) true _ ?s1 ?s2 A18.out).mono ?_);(case s1=>repeat (first | exact (Kd.R_reads' HO_7.out).2.2 | (with_reducible refine Kd.C_alloc ?_ _) | (with_reducible refine Kd.C_drewN ?_ _) | (with_reducible refine Kd.C_drew ?_)));(case s2=>exact (Kd.R_reads' HO_7.out).2.1);rintro e w' ⟨rfl,⟨nd,rfl⟩⟩;(try first | exact ⟨rfl,_,World.drewN_drewN _ _ _⟩ | exact ⟨rfl,_,Eq.trans (World.drewN_drewN _ _ _) (congrArg (World.drewN _) (Nat.add_assoc _ _ _))⟩)))
             repeat (go_quiet (first | (go_at_call 22;(with_reducible refine (spec_l04Among.calls k3 _ _ x7_3 ((rd_T59 l0_1 (ji15)).f1) true _ ?s1 ?s2 A18.out).mono ?_);(case s1=>repeat (first | exact (Kd.R_reads' HO_7.out).2.2 | (with_reducible refine Kd.C_alloc ?_ _) | (with_reducible refine Kd.C_drewN ?_ _) | (with_reducible refine Kd.C_drew ?_)));(case s2=>exact (Kd.R_reads' HO_7.out).2.1);rintro e w' ⟨rfl,⟨nd,rfl⟩⟩;(try first | exact ⟨rfl,_,World.drewN_drewN _ _ _⟩ | exact ⟨rfl,_,Eq.trans (World.drewN_drewN _ _ _) (congrArg (World.drewN _) (Nat.add_assoc _ _ _))⟩)));try go_wp2_with (first | (go_at_call 22;(with_reducible refine (spec_l04Among.calls k3 _ _ x7_3 ((rd_T59 l0_1 (ji15)).f1) true _ ?s1 ?s2 A18.out).mono ?_);(case s1=>repeat (first | exact (Kd.R_reads' HO_7.out).2.2 | (with_reducible refine Kd.C_alloc ?_ _) | (with_reducible refine Kd.C_drewN ?_ _) | (with_reducible refine Kd.C_drew ?_)));(case s2=>exact (Kd.R_reads' HO_7.out).2.1);rintro e w' ⟨rfl,⟨nd,rfl⟩⟩;(try first | exact ⟨rfl,_,World.drewN_drewN _ _ _⟩ | exact ⟨rfl,_,Eq.trans (World.drewN_drewN _ _ _) (congrArg (World.drewN _) (Nat.add_assoc _ _ _))⟩))))
             go_roundg k3
             case measure=>have:=HK1.out;have:=HJ4.out;have:=HK3.out;omega
             case rel=>exact ⟨(x7_3),(wrap64 (x8_3+1)),(z1_),H',⟨by have:=HK1.out;have:=HJ4.out;have:=HK3.out;omega⟩,⟨z2_ HO_7.out⟩,⟨z3_ BK186.out⟩,⟨z4_ HB.out GE186.out⟩⟩
            ·replace c19:=Bool.eq_false_iff.mpr c19
             subst c19
             have H1:(if x7_3.length<17592186044416 then (spec_l04Order.l1 k3 x6_1 (x7_3 ++ [(rd_T59 l0_1 (ji15)).f1]) (wrap64 (x8_3+1)) a0_0 l0_1) else (none))=some r:=by rw [if_neg (show ¬ (false=true) by decide)] at H;exact H
             clear H
             have H:=H1
             clear H1
             by_cases c22:x7_3.length<17592186044416
             ·rw [if_pos c22] at H
              have LMc22:=Aside0.mk c22
              clear c22
              obtain ⟨y194,hy194⟩:∃ y_:List Int,y_=(x7_3 ++ [(rd_T59 l0_1 (ji15)).f1]):=⟨_,rfl⟩
              replace H:(spec_l04Order.l1 k3 x6_1 y194 (wrap64 (x8_3+1)) a0_0 l0_1)=some r:=by first | (rw [hy194];with_reducible exact H) | (have H2_:=(Option.bind_some _ _).symm.trans H;rw [hy194];with_reducible exact H2_) | (have H2_:=(Option.bind_some _ _).symm.trans H;with_reducible exact H2_) | with_reducible exact H | (rw [hy194];exact H) | exact H
              have Ny194:=Aside0.mk hy194
              clear hy194
              have H':=Aside0.mk H
              clear H
              have ⟨hcz23_0,hcz23_1,hfz23_0,hfz23_1⟩:=cz2_ BK186.out
              have p192:0≤((ji15):Int):=of_decide_eq_true (z0_)
              have q192:(ji15)<(l0_1.length:Int):=of_decide_eq_true (z0_)
              obtain ⟨ad192,e192,hx192_0,hx192_1⟩:=at_T59 HR0_1.out (ji15) p192 q192
              cases e192
              replace hx192_0:=(HB.out.cell (World.block_lt_of_cell? w _ hx192_0)).trans hx192_0
              replace hx192_1:=(HB.out.cell (World.block_lt_of_cell? w _ hx192_1)).trans hx192_1
              replace p192:=eq_true p192
              replace q192:=eq_true q192
              obtain ⟨Ao24,co24,eo24⟩:=Kd.R_slice HO_7.out
              subst eo24
              go_wp2_with (first | (go_at_call 22;(with_reducible refine (spec_l04Among.calls k3 _ _ x7_3 ((rd_T59 l0_1 (ji15)).f1) false _ ?s1 ?s2 A18.out).mono ?_);(case s1=>repeat (first | exact (Kd.R_reads' HO_7.out).2.2 | (with_reducible refine Kd.C_alloc ?_ _) | (with_reducible refine Kd.C_drewN ?_ _) | (with_reducible refine Kd.C_drew ?_)));(case s2=>exact (Kd.R_reads' HO_7.out).2.1);rintro e w' ⟨rfl,⟨nd,rfl⟩⟩;(try first | exact ⟨rfl,_,World.drewN_drewN _ _ _⟩ | exact ⟨rfl,_,Eq.trans (World.drewN_drewN _ _ _) (congrArg (World.drewN _) (Nat.add_assoc _ _ _))⟩)) | ((with_reducible refine gate_builtin (b:=.append) (xs:=#[.tmp 53,.tmp 55]) rfl ?_);at_builtin;refine Kd.R_append (Kd.int .i64) (w0:=w) w.heap.size rfl (.tmp 53) (.tmp 55) 26 2 (.int .i64 0) 8 rfl Tryd.underlying26 info2 rfl (by decide) (by omega) (.slice Ao24 x7_3.length co24) x7_3 ((rd_T59 l0_1 (ji15)).f1) [.int .i64 ((rd_T59 l0_1 (ji15)).f1)] (fun _=>True) (fun _=>False) rfl rfl ?aP (fun _ hk=>hk.elim) ?aF ?aO ?aB ?aS ?aL ?_;(case aP=>exact rfl);(case aB=>exact (z4_ HB.out GE186.out));(case aF=>exact (fun _ _=>trivial));(case aO=>exact (z2_ HO_7.out));(case aS=>exact (below_size (z4_ HB.out GE186.out)));(case aL=>have:=LMc22.out;omega);intro v195 w25 ho hb hg hat;rw [← Ny194.out] at ho;refine as3_ (blk_grown (g:=gb186) (o:=.cells #[.int .i64 a0_0,.slice (some ad192) l0_1.length c0_1] 30 (0,0)) (z3_ BK186.out) hg (Kd.R_ne HO_7.out BK186.out (by decide))) (hb) (ho) ?_;clear BK186 HB HO_7;intro BK186 HB HO196;clear ho hb hg hat))
              repeat (go_quiet (first | (go_at_call 22;(with_reducible refine (spec_l04Among.calls k3 _ _ x7_3 ((rd_T59 l0_1 (ji15)).f1) false _ ?s1 ?s2 A18.out).mono ?_);(case s1=>repeat (first | exact (Kd.R_reads' HO_7.out).2.2 | (with_reducible refine Kd.C_alloc ?_ _) | (with_reducible refine Kd.C_drewN ?_ _) | (with_reducible refine Kd.C_drew ?_)));(case s2=>exact (Kd.R_reads' HO_7.out).2.1);rintro e w' ⟨rfl,⟨nd,rfl⟩⟩;(try first | exact ⟨rfl,_,World.drewN_drewN _ _ _⟩ | exact ⟨rfl,_,Eq.trans (World.drewN_drewN _ _ _) (congrArg (World.drewN _) (Nat.add_assoc _ _ _))⟩)) | ((with_reducible refine gate_builtin (b:=.append) (xs:=#[.tmp 53,.tmp 55]) rfl ?_);at_builtin;refine Kd.R_append (Kd.int .i64) (w0:=w) w.heap.size rfl (.tmp 53) (.tmp 55) 26 2 (.int .i64 0) 8 rfl Tryd.underlying26 info2 rfl (by decide) (by omega) (.slice Ao24 x7_3.length co24) x7_3 ((rd_T59 l0_1 (ji15)).f1) [.int .i64 ((rd_T59 l0_1 (ji15)).f1)] (fun _=>True) (fun _=>False) rfl rfl ?aP (fun _ hk=>hk.elim) ?aF ?aO ?aB ?aS ?aL ?_;(case aP=>exact rfl);(case aB=>exact (z4_ HB.out GE186.out));(case aF=>exact (fun _ _=>trivial));(case aO=>exact (z2_ HO_7.out));(case aS=>exact (below_size (z4_ HB.out GE186.out)));(case aL=>have:=LMc22.out;omega);intro v195 w25 ho hb hg hat;rw [← Ny194.out] at ho;refine as3_ (blk_grown (g:=gb186) (o:=.cells #[.int .i64 a0_0,.slice (some ad192) l0_1.length c0_1] 30 (0,0)) (z3_ BK186.out) hg (Kd.R_ne HO_7.out BK186.out (by decide))) (hb) (ho) ?_;clear BK186 HB HO_7;intro BK186 HB HO196;clear ho hb hg hat));try go_wp2_with (first | (go_at_call 22;(with_reducible refine (spec_l04Among.calls k3 _ _ x7_3 ((rd_T59 l0_1 (ji15)).f1) false _ ?s1 ?s2 A18.out).mono ?_);(case s1=>repeat (first | exact (Kd.R_reads' HO_7.out).2.2 | (with_reducible refine Kd.C_alloc ?_ _) | (with_reducible refine Kd.C_drewN ?_ _) | (with_reducible refine Kd.C_drew ?_)));(case s2=>exact (Kd.R_reads' HO_7.out).2.1);rintro e w' ⟨rfl,⟨nd,rfl⟩⟩;(try first | exact ⟨rfl,_,World.drewN_drewN _ _ _⟩ | exact ⟨rfl,_,Eq.trans (World.drewN_drewN _ _ _) (congrArg (World.drewN _) (Nat.add_assoc _ _ _))⟩)) | ((with_reducible refine gate_builtin (b:=.append) (xs:=#[.tmp 53,.tmp 55]) rfl ?_);at_builtin;refine Kd.R_append (Kd.int .i64) (w0:=w) w.heap.size rfl (.tmp 53) (.tmp 55) 26 2 (.int .i64 0) 8 rfl Tryd.underlying26 info2 rfl (by decide) (by omega) (.slice Ao24 x7_3.length co24) x7_3 ((rd_T59 l0_1 (ji15)).f1) [.int .i64 ((rd_T59 l0_1 (ji15)).f1)] (fun _=>True) (fun _=>False) rfl rfl ?aP (fun _ hk=>hk.elim) ?aF ?aO ?aB ?aS ?aL ?_;(case aP=>exact rfl);(case aB=>exact (z4_ HB.out GE186.out));(case aF=>exact (fun _ _=>trivial));(case aO=>exact (z2_ HO_7.out));(case aS=>exact (below_size (z4_ HB.out GE186.out)));(case aL=>have:=LMc22.out;omega);intro v195 w25 ho hb hg hat;rw [← Ny194.out] at ho;refine as3_ (blk_grown (g:=gb186) (o:=.cells #[.int .i64 a0_0,.slice (some ad192) l0_1.length c0_1] 30 (0,0)) (z3_ BK186.out) hg (Kd.R_ne HO_7.out BK186.out (by decide))) (hb) (ho) ?_;clear BK186 HB HO_7;intro BK186 HB HO196;clear ho hb hg hat)))
              go_roundg k3
              case measure=>have:=HK1.out;have:=HJ4.out;have:=HK3.out;omega
              case rel=>exact ⟨(y194),(wrap64 (x8_3+1)),(z1_),H',⟨by have:=HK1.out;have:=HJ4.out;have:=HK3.out;omega⟩,⟨z2_ HO196.out⟩,⟨z3_ BK186.out⟩,⟨z4_ HB.out GE186.out⟩⟩
             ·rw [if_neg c22] at H
              exact absurd H (by simp)
           ·rw [if_neg c17] at H
            exact absurd H (by simp)
          ·rw [if_neg c16] at H
           exact absurd H (by simp)
        ·rw [if_neg c13] at H
         have c13b0:decide (x8_3<(l0_1.length:Int))=false:=decide_eq_false c13
         clear c13
         obtain rfl:=Option.some.inj H
         have ⟨hcz26_0,hcz26_1,hfz26_0,hfz26_1⟩:=cz2_ BK186.out
         go_wp2
         repeat (go_quiet (fail);try go_wp2)
         go_ret
         exact ⟨_,z10_,z2_ HO_7.out,z4_ HB.out GE186.out⟩


/-! ### spec_l01Min: function 38 -/
def spec_l01Min.f (a0:Int) (a1:Int):Option (Int):=if a0<a1 then (some a0) else (some a1)
set_option maxHeartbeats 8000000 in
set_option maxRecDepth 100000 in
theorem spec_l01Min.calls (a0:Int) (a1:Int) (r:Int) (w:World) (h:spec_l01Min.f a0 a1=some r) :
  Calls Tryd.prog 38 #[.int .i64 a0,.int .i64 a1] w fun e w'=>e = .returned (.int .i64 r)∧Drawn0 w w':=by
 have H:(if a0<a1 then (some a0) else (some a1))=some r:=h
 clear h
 by_cases c3:a0<a1
 ·rw [if_pos c3] at H
  have c3b0:decide (a0<a1)=true:=decide_eq_true c3
  clear c3
  obtain rfl:=Option.some.inj H
  go_enter Tryd.func38,Tryd.ntmps38
  go_wp2
  go_ret
  exact ⟨z1_,z5_⟩
 ·rw [if_neg c3] at H
  have c3b0:decide (a0<a1)=false:=decide_eq_false c3
  clear c3
  obtain rfl:=Option.some.inj H
  go_enter Tryd.func38,Tryd.ntmps38
  go_wp2
  go_ret
  exact ⟨z1_,z5_⟩


/-! ### spec_l04Owners: function 21 -/
def spec_l04Owners.f (k:Nat) (a0_0:Int) (l0_1:List (S59)) (a1:ByteArray) (a2:Int):Option (List Int):=(spec_l04Order.f k a0_0 l0_1 a1).bind fun t198=>((spec_l01Min.f a2 (t198.length:Int)).bind fun t201=>(if 0≤t201 then (if t201≤(t198.length:Int) then (some (t198.take (t201:Int).toNat)) else (none)) else (none)))
theorem spec_l04Owners.mono:∀ a0 a1 a2 a3 k,LeO (spec_l04Owners.f k a0 a1 a2 a3) (spec_l04Owners.f (k+1) a0 a1 a2 a3):=by
 intro a0 a1 a2 a3 k
 unfold spec_l04Owners.f
 repeat' first
   | (with_reducible exact spec_l04Order.mono _ _ _ _)
   | (with_reducible exact LeO.refl _)
   | (with_reducible exact LeO.none _)
   | (with_reducible refine LeO.ite ?_ ?_)
   | (with_reducible refine LeO.bind ?_ (fun _=>?_))
   | exact spec_l04Order.mono _ _ _ _
   | exact LeO.none _
   | refine LeO.ite ?_ ?_
   | refine LeO.bind ?_ (fun _=>?_)
set_option maxHeartbeats 8000000 in
set_option maxRecDepth 100000 in
theorem spec_l04Owners.calls (k:Nat) (a0_0:Int) (A0_1:Option Addr) (c0_1:Nat) (l0_1:List (S59)) (a1:ByteArray) (a2:Int) (r:List Int) (w:World) (hr0_1:Kd.C k59 w A0_1 l0_1.length l0_1) (hc0_1:l0_1.length≤c0_1) (h:spec_l04Owners.f k a0_0 l0_1 a1 a2=some r) :
  Calls Tryd.prog 21 #[.agg #[.int .i64 a0_0,.slice A0_1 l0_1.length c0_1],.string a1,.int .i64 a2] w fun e w'=>∃ v0_:Value,e = .returned (v0_)∧Kd.R (Kd.int .i64) 2 w' w.heap.size (fun _=>True) v0_ r∧Below w.heap.size w w':=by
 have hu30:=Tryd.underlying30
 have HR0_1:=Aside0.mk hr0_1
 have HC0_1:=Aside0.mk hc0_1
 clear hr0_1 hc0_1
 have HB:=Aside0.mk (Below.refl w.heap.size w)
 have H:((spec_l04Order.f k a0_0 l0_1 a1).bind fun t198=>((spec_l01Min.f a2 (t198.length:Int)).bind fun t201=>(if 0≤t201 then (if t201≤(t198.length:Int) then (some (t198.take (t201:Int).toNat)) else (none)) else (none))))=some r:=h
 clear h
 replace H:=Option.bind_eq_some_iff.mp H
 obtain ⟨t198,A40,H⟩:=H
 replace H:((spec_l01Min.f a2 (t198.length:Int)).bind fun t201=>(if 0≤t201 then (if t201≤(t198.length:Int) then (some (t198.take (t201:Int).toNat)) else (none)) else (none)))=some r:=H
 have A4:=Aside0.mk A40
 clear A40
 replace H:=Option.bind_eq_some_iff.mp H
 obtain ⟨t201,A50,H⟩:=H
 replace H:(if 0≤t201 then (if t201≤(t198.length:Int) then (some (t198.take (t201:Int).toNat)) else (none)) else (none))=some r:=H
 have A5:=Aside0.mk A50
 clear A50
 by_cases c6:0≤t201
 ·rw [if_pos c6] at H
  have c6b0:=eq_true c6
  have c6b1:decide (0≤t201)=true:=decide_eq_true c6
  clear c6
  by_cases c7:t201≤(t198.length:Int)
  ·rw [if_pos c7] at H
   have c7b0:=eq_true c7
   have c7b1:decide (t201≤(t198.length:Int))=true:=decide_eq_true c7
   clear c7
   obtain ⟨y202,hy202⟩:∃ y_:List Int,y_=(t198.take (t201:Int).toNat):=⟨_,rfl⟩
   replace H:(some y202)=some r:=by first | (rw [hy202];with_reducible exact H) | (have H2_:=(Option.bind_some _ _).symm.trans H;rw [hy202];with_reducible exact H2_) | (have H2_:=(Option.bind_some _ _).symm.trans H;with_reducible exact H2_) | with_reducible exact H | (rw [hy202];exact H) | exact H
   have Ny202:=Aside0.mk hy202
   clear hy202
   obtain rfl:=Option.some.inj H
   go_enter Tryd.func21,Tryd.ntmps21
   go_wp2_with (first | ((with_reducible refine gd_ 3 ?_);refine be_ 3 #[.int .i64 a0_0,.slice A0_1 l0_1.length c0_1] 30 ?_;intro gb197 hg w8 hbox hb;refine as4_ (below_step (z6_ HB.out) hb) (hbox) ((z8_ HB.out:w.heap.size≤gb197)) ((z8_ HB.out:w.heap.size≤gb197)) ?_;clear HB;intro HB BK197 GW197 GE197;clear hb hbox hg;have ⟨hcz9_0,hcz9_1,hfz9_0,hfz9_1⟩:=cz2_ BK197.out) | ((with_reducible refine gc_ 37 ?_);refine gl_ (some 10) Tryd.func37 #[.agg #[.int .i64 a0_0,.slice A0_1 l0_1.length c0_1],.string a1] ?_;(with_reducible refine (spec_l04Order.calls k a0_0 _ _ l0_1 a1 t198 _ ?s1 ?s2 A4.out).mono ?_);(case s1=>repeat (first | exact (Kd.C_below HR0_1.out HB.out) | (with_reducible refine Kd.C_alloc ?_ _) | (with_reducible refine Kd.C_drewN ?_ _) | (with_reducible refine Kd.C_drew ?_)));(case s2=>exact HC0_1.out);rintro e w10 ⟨v199,rfl,ho0,hb⟩;refine ⟨_,rfl,?_⟩;refine as3_ (Kd.R_lower ho0 (below_size (z4_ HB.out GE197.out))) (blkB_ BK197.out hb) (below_step (z4_ HB.out GE197.out) hb) ?_;clear BK197 HB;intro HO200 BK197 HB;(try clear hb);(try clear ho0);obtain ⟨Ao11,co11,eo11⟩:=Kd.R_slice HO200.out;subst eo11) | ((with_reducible refine gc_ 38 ?_);refine gl_ (some 15) Tryd.func38 #[.int .i64 a2,.int .i64 (t198.length:Int)] ?_;(with_reducible refine (spec_l01Min.calls a2 (t198.length:Int) t201 _ A5.out).mono ?_);rintro e w' ⟨rfl,⟨nd,rfl⟩⟩;refine ⟨_,rfl,?_⟩;have q12:(t201:Int)≤((t198.length:Int):Int):=of_decide_eq_true (z0_);obtain ⟨i012,hi012,_,hsz12,_⟩:=info_parts info2;have hcut12:=cut_to (P:=Tryd.prog) 26 2 .i64 Tryd.underlying26 hi012 Ao11 t198.length co11 t201 (of_decide_eq_true (z0_)) q12 (Kd.R_reads' HO200.out).2.1;have hr12:=Kd.R_take (m:=(t201:Int).toNat) HO200.out (by omega);have hy12:y202.length=(t201:Int).toNat:=(by rw [Ny202.out,List.length_take];omega);rw [← Ny202.out] at hr12;rw [← hy12] at hr12 hcut12;clear hy12 hi012 hsz12 HO200;have HO204:=Aside0.mk hr12;clear hr12;replace q12:=eq_true q12))
   go_ret
   exact ⟨_,z10_,z2_ HO204.out,z4_ HB.out GE197.out⟩
  ·rw [if_neg c7] at H
   exact absurd H (by simp)
 ·rw [if_neg c6] at H
  exact absurd H (by simp)


/-! ### spec_l04List: function 31 -/
mutual
def spec_l04List.l0:Nat→List Int→List Int→List Int→Int→List Int→List Int→Int→Option (List Int × List Int)
 | 0,_,_,_,_,_,_,_=>none
 | k+1,x3,x10,x11,x12,x13,x14,x15=>if x15<(x11.length:Int) then (if 0≤x15 then (spec_l04List.l1 k x3 x10 x11 x12 x13 x14 x15 (rd x11 x15)) else (none)) else (some (x13,x14))
def spec_l04List.l1:Nat→List Int→List Int→List Int→Int→List Int→List Int→Int→Int→Option (List Int × List Int)
 | 0,_,_,_,_,_,_,_,_=>none
 | k+1,x3,x10,x11,x12,x13,x14,x15,x16=>(spec_l04Among.f k x3 x16).bind fun t219=>(if t219=true then (spec_l04List.j2 k x3 x10 x11 x12 x13 x14 x15 x16 (decide (x12≤(x10.length:Int)))) else (spec_l04List.j2 k x3 x10 x11 x12 x13 x14 x15 x16 false))
def spec_l04List.j2:Nat→List Int→List Int→List Int→Int→List Int→List Int→Int→Int→Bool→Option (List Int × List Int)
 | 0,_,_,_,_,_,_,_,_,_=>none
 | k+1,x3,x10,x11,x12,x13,x14,x15,x16,x46=>if x46=true then (if x12<(x10.length:Int) then (if 0≤x12 then (spec_l04List.l1 k x3 x10 x11 (wrap64 (x12+1)) x13 x14 x15 (rd x10 x12)) else (none)) else (spec_l04List.l1 k x3 x10 x11 (wrap64 (x12+1)) x13 x14 x15 x16)) else ((spec_l04Among.f k x3 x16).bind fun t221=>(if t221=true then (spec_l04List.l0 k x3 x10 x11 x12 x13 x14 (wrap64 (x15+1))) else (if x13.length<17592186044416 then (if 0≤x15 then (if x15<(x11.length:Int) then (if x14.length<17592186044416 then (spec_l04List.l0 k x3 x10 x11 x12 (x13 ++ [x16]) (x14 ++ [rd x11 x15]) (wrap64 (x15+1))) else (none)) else (none)) else (none)) else (none))))
end
def spec_l04List.f (k:Nat) (a0_0:Int) (l0_1:List (S59)) (a1:ByteArray) (a2:Int) (l3:List Int):Option (List Int × List Int):=(spec_l04Order.f k a0_0 l0_1 a1).bind fun t206=>((spec_l04Owners.f k a0_0 l0_1 a1 a2).bind fun t209=>(spec_l04List.l0 k l3 t206 t209 (t209.length:Int) (([]:List Int)) (([]:List Int)) 0))
theorem spec_l04List.mono_l:∀ k,(∀ y0 y1 y2 y3 y4 y5 y6,LeO (spec_l04List.l0 k y0 y1 y2 y3 y4 y5 y6) (spec_l04List.l0 (k+1) y0 y1 y2 y3 y4 y5 y6))∧(∀ y0 y1 y2 y3 y4 y5 y6 y7,LeO (spec_l04List.l1 k y0 y1 y2 y3 y4 y5 y6 y7) (spec_l04List.l1 (k+1) y0 y1 y2 y3 y4 y5 y6 y7))∧(∀ y0 y1 y2 y3 y4 y5 y6 y7 y8,LeO (spec_l04List.j2 k y0 y1 y2 y3 y4 y5 y6 y7 y8) (spec_l04List.j2 (k+1) y0 y1 y2 y3 y4 y5 y6 y7 y8))
 | 0=>⟨fun _ _ _ _ _ _ _ r h=>by simp [spec_l04List.l0] at h,fun _ _ _ _ _ _ _ _ r h=>by simp [spec_l04List.l1] at h,fun _ _ _ _ _ _ _ _ _ r h=>by simp [spec_l04List.j2] at h⟩
 | k+1=>by
  obtain ⟨ih0,ih1,ih2⟩:=spec_l04List.mono_l k
  refine ⟨?_,?_,?_⟩
  ·intro y0 y1 y2 y3 y4 y5 y6
   unfold spec_l04List.l0
   repeat' first
   | (with_reducible exact ih0 _ _ _ _ _ _ _)
   | (with_reducible exact ih1 _ _ _ _ _ _ _ _)
   | (with_reducible exact ih2 _ _ _ _ _ _ _ _ _)
   | (with_reducible exact spec_l04Among.mono _ _ _)
   | (with_reducible exact spec_l04Order.mono _ _ _ _)
   | (with_reducible exact spec_l04Owners.mono _ _ _ _ _)
   | (with_reducible exact LeO.refl _)
   | (with_reducible exact LeO.none _)
   | (with_reducible refine LeO.ite ?_ ?_)
   | (with_reducible refine LeO.bind ?_ (fun _=>?_))
   | exact ih0 _ _ _ _ _ _ _
   | exact ih1 _ _ _ _ _ _ _ _
   | exact ih2 _ _ _ _ _ _ _ _ _
   | exact spec_l04Among.mono _ _ _
   | exact spec_l04Order.mono _ _ _ _
   | exact spec_l04Owners.mono _ _ _ _ _
   | exact LeO.none _
   | refine LeO.ite ?_ ?_
   | refine LeO.bind ?_ (fun _=>?_)
  ·intro y0 y1 y2 y3 y4 y5 y6 y7
   unfold spec_l04List.l1
   repeat' first
   | (with_reducible exact ih0 _ _ _ _ _ _ _)
   | (with_reducible exact ih1 _ _ _ _ _ _ _ _)
   | (with_reducible exact ih2 _ _ _ _ _ _ _ _ _)
   | (with_reducible exact spec_l04Among.mono _ _ _)
   | (with_reducible exact spec_l04Order.mono _ _ _ _)
   | (with_reducible exact spec_l04Owners.mono _ _ _ _ _)
   | (with_reducible exact LeO.refl _)
   | (with_reducible exact LeO.none _)
   | (with_reducible refine LeO.ite ?_ ?_)
   | (with_reducible refine LeO.bind ?_ (fun _=>?_))
   | exact ih0 _ _ _ _ _ _ _
   | exact ih1 _ _ _ _ _ _ _ _
   | exact ih2 _ _ _ _ _ _ _ _ _
   | exact spec_l04Among.mono _ _ _
   | exact spec_l04Order.mono _ _ _ _
   | exact spec_l04Owners.mono _ _ _ _ _
   | exact LeO.none _
   | refine LeO.ite ?_ ?_
   | refine LeO.bind ?_ (fun _=>?_)
  ·intro y0 y1 y2 y3 y4 y5 y6 y7 y8
   unfold spec_l04List.j2
   repeat' first
   | (with_reducible exact ih0 _ _ _ _ _ _ _)
   | (with_reducible exact ih1 _ _ _ _ _ _ _ _)
   | (with_reducible exact ih2 _ _ _ _ _ _ _ _ _)
   | (with_reducible exact spec_l04Among.mono _ _ _)
   | (with_reducible exact spec_l04Order.mono _ _ _ _)
   | (with_reducible exact spec_l04Owners.mono _ _ _ _ _)
   | (with_reducible exact LeO.refl _)
   | (with_reducible exact LeO.none _)
   | (with_reducible refine LeO.ite ?_ ?_)
   | (with_reducible refine LeO.bind ?_ (fun _=>?_))
   | exact ih0 _ _ _ _ _ _ _
   | exact ih1 _ _ _ _ _ _ _ _
   | exact ih2 _ _ _ _ _ _ _ _ _
   | exact spec_l04Among.mono _ _ _
   | exact spec_l04Order.mono _ _ _ _
   | exact spec_l04Owners.mono _ _ _ _ _
   | exact LeO.none _
   | refine LeO.ite ?_ ?_
   | refine LeO.bind ?_ (fun _=>?_)
theorem spec_l04List.mono:∀ a0 a1 a2 a3 a4 k,LeO (spec_l04List.f k a0 a1 a2 a3 a4) (spec_l04List.f (k+1) a0 a1 a2 a3 a4):=by
 intro a0 a1 a2 a3 a4 k
 obtain ⟨ih0,ih1,ih2⟩:=spec_l04List.mono_l k
 unfold spec_l04List.f
 repeat' first
   | (with_reducible exact ih0 _ _ _ _ _ _ _)
   | (with_reducible exact ih1 _ _ _ _ _ _ _ _)
   | (with_reducible exact ih2 _ _ _ _ _ _ _ _ _)
   | (with_reducible exact spec_l04Among.mono _ _ _)
   | (with_reducible exact spec_l04Order.mono _ _ _ _)
   | (with_reducible exact spec_l04Owners.mono _ _ _ _ _)
   | (with_reducible exact LeO.refl _)
   | (with_reducible exact LeO.none _)
   | (with_reducible refine LeO.ite ?_ ?_)
   | (with_reducible refine LeO.bind ?_ (fun _=>?_))
   | exact ih0 _ _ _ _ _ _ _
   | exact ih1 _ _ _ _ _ _ _ _
   | exact ih2 _ _ _ _ _ _ _ _ _
   | exact spec_l04Among.mono _ _ _
   | exact spec_l04Order.mono _ _ _ _
   | exact spec_l04Owners.mono _ _ _ _ _
   | exact LeO.none _
   | refine LeO.ite ?_ ?_
   | refine LeO.bind ?_ (fun _=>?_)
set_option maxHeartbeats 8000000 in
set_option maxRecDepth 100000 in
theorem spec_l04List.calls (k:Nat) (a0_0:Int) (A0_1:Option Addr) (c0_1:Nat) (l0_1:List (S59)) (a1:ByteArray) (a2:Int) (A3:Option Addr) (c3:Nat) (l3:List Int) (r1:List Int) (r2:List Int) (w:World) (hr0_1:Kd.C k59 w A0_1 l0_1.length l0_1) (hc0_1:l0_1.length≤c0_1) (hr3:Kd.C (Kd.int .i64) w A3 l3.length l3) (hc3:l3.length≤c3) (h:spec_l04List.f k a0_0 l0_1 a1 a2 l3=some (r1,r2)) :
  Calls Tryd.prog 31 #[.agg #[.int .i64 a0_0,.slice A0_1 l0_1.length c0_1],.string a1,.int .i64 a2,.slice A3 l3.length c3] w fun e w'=>∃ v0_ v1_:Value,e = .returned (.tuple #[v0_,v1_])∧Kd.R (Kd.int .i64) 2 w' w.heap.size (fun k_=>some k_≠(v1_:Value).ownBlock) v0_ r1∧Kd.R (Kd.int .i64) 2 w' w.heap.size (fun k_=>some k_≠(v0_:Value).ownBlock) v1_ r2∧Below w.heap.size w w':=by
 have hu30:=Tryd.underlying30
 have HR0_1:=Aside0.mk hr0_1
 have HC0_1:=Aside0.mk hc0_1
 clear hr0_1 hc0_1
 have HR3:=Aside0.mk hr3
 have HC3:=Aside0.mk hc3
 clear hr3 hc3
 have HB:=Aside0.mk (Below.refl w.heap.size w)
 have H:((spec_l04Order.f k a0_0 l0_1 a1).bind fun t206=>((spec_l04Owners.f k a0_0 l0_1 a1 a2).bind fun t209=>(spec_l04List.l0 k l3 t206 t209 (t209.length:Int) (([]:List Int)) (([]:List Int)) 0)))=some (r1,r2):=h
 clear h
 replace H:=Option.bind_eq_some_iff.mp H
 obtain ⟨t206,A50,H⟩:=H
 replace H:((spec_l04Owners.f k a0_0 l0_1 a1 a2).bind fun t209=>(spec_l04List.l0 k l3 t206 t209 (t209.length:Int) (([]:List Int)) (([]:List Int)) 0))=some (r1,r2):=H
 have A5:=Aside0.mk A50
 clear A50
 replace H:=Option.bind_eq_some_iff.mp H
 obtain ⟨t209,A60,H⟩:=H
 replace H:(spec_l04List.l0 k l3 t206 t209 (t209.length:Int) (([]:List Int)) (([]:List Int)) 0)=some (r1,r2):=H
 have A6:=Aside0.mk A60
 clear A60
 obtain ⟨y212,hy212⟩:∃ y_:List Int,y_=(([]:List Int)):=⟨_,rfl⟩
 replace H:(spec_l04List.l0 k l3 t206 t209 (t209.length:Int) y212 (([]:List Int)) 0)=some (r1,r2):=by first | (rw [hy212];with_reducible exact H) | (have H2_:=(Option.bind_some _ _).symm.trans H;rw [hy212];with_reducible exact H2_) | (have H2_:=(Option.bind_some _ _).symm.trans H;with_reducible exact H2_) | with_reducible exact H | (rw [hy212];exact H) | exact H
 have Ny212:=Aside0.mk hy212
 clear hy212
 obtain ⟨y215,hy215⟩:∃ y_:List Int,y_=(([]:List Int)):=⟨_,rfl⟩
 replace H:(spec_l04List.l0 k l3 t206 t209 (t209.length:Int) y212 y215 0)=some (r1,r2):=by first | (rw [hy215];with_reducible exact H) | (have H2_:=(Option.bind_some _ _).symm.trans H;rw [hy215];with_reducible exact H2_) | (have H2_:=(Option.bind_some _ _).symm.trans H;with_reducible exact H2_) | with_reducible exact H | (rw [hy215];exact H) | exact H
 have Ny215:=Aside0.mk hy215
 clear hy215
 have H':=Aside0.mk H
 clear H
 go_enter Tryd.func31,Tryd.ntmps31
 go_wp2_with (first | ((with_reducible refine gd_ 4 ?_);(try (refine gate_guard (by rfl) ?_;dsimp only));refine be_ 4 #[.int .i64 a0_0,.slice A0_1 l0_1.length c0_1] 30 ?_;intro gb205 hg w7 hbox hb;refine as4_ (below_step (z6_ HB.out) hb) (hbox) ((z8_ HB.out:w.heap.size≤gb205)) ((z8_ HB.out:w.heap.size≤gb205)) ?_;clear HB;intro HB BK205 GW205 GE205;clear hb hbox hg;have ⟨hcz8_0,hcz8_1,hfz8_0,hfz8_1⟩:=cz2_ BK205.out) | ((with_reducible refine gc_ 37 ?_);refine gl_ (some 19) Tryd.func37 #[.agg #[.int .i64 a0_0,.slice A0_1 l0_1.length c0_1],.string a1] ?_;(with_reducible refine (spec_l04Order.calls k a0_0 _ _ l0_1 a1 t206 _ ?s1 ?s2 A5.out).mono ?_);(case s1=>repeat (first | exact (Kd.C_below HR0_1.out HB.out) | (with_reducible refine Kd.C_alloc ?_ _) | (with_reducible refine Kd.C_drewN ?_ _) | (with_reducible refine Kd.C_drew ?_)));(case s2=>exact HC0_1.out);rintro e w9 ⟨v207,rfl,ho0,hb⟩;refine ⟨_,rfl,?_⟩;refine as3_ (Kd.R_lower ho0 (below_size (z4_ HB.out GE205.out))) (blkB_ BK205.out hb) (below_step (z4_ HB.out GE205.out) hb) ?_;clear BK205 HB;intro HO208 BK205 HB;(try clear hb);(try clear ho0);have ⟨hcz10_0,hcz10_1,hfz10_0,hfz10_1⟩:=cz2_ BK205.out) | ((with_reducible refine gc_ 21 ?_);refine gl_ (some 23) Tryd.func21 #[.agg #[.int .i64 a0_0,.slice A0_1 l0_1.length c0_1],.string a1,.int .i64 a2] ?_;(with_reducible refine (spec_l04Owners.calls k a0_0 _ _ l0_1 a1 a2 t209 _ ?s1 ?s2 A6.out).mono ?_);(case s1=>repeat (first | exact (Kd.C_below HR0_1.out HB.out) | (with_reducible refine Kd.C_alloc ?_ _) | (with_reducible refine Kd.C_drewN ?_ _) | (with_reducible refine Kd.C_drew ?_)));(case s2=>exact HC0_1.out);rintro e w11 ⟨v210,rfl,ho0,hb⟩;refine ⟨_,rfl,?_⟩;refine as4_ (Kd.R_elder' (z2_ HO208.out) (Kd.R_base ho0) hb) (Kd.R_lower (Kd.R_new' ho0 (Kd.R_lt (z2_ HO208.out))) (below_size (z4_ HB.out GE205.out))) (blkB_ BK205.out hb) (below_step (z4_ HB.out GE205.out) hb) ?_;clear HO208 BK205 HB;intro HO208 HO211 BK205 HB;(try clear hb);(try clear ho0);obtain ⟨Ao12,co12,eo12⟩:=Kd.R_slice HO211.out;subst eo12) | ((with_reducible refine gd_ 26 ?_);(try (refine gate_guard (by rfl) ?_;dsimp only));refine Kd.R_lit (Kd.int .i64) _ 2 ?hg (N:=26) ?hd (xs:=([]:List Int)) (inner:=[]) (ok:=fun _=>True) (okp:=fun _=>True) ?hr ?hp (fun _ hk=>hk) trivial (Below.refl _ _) (Nat.le_refl _) (by simp) ?_;(case hd=>rfl);(case hg=>rfl);(case hr=>first | (go_simp;done) | (go_simp;rfl));(case hp=>exact (Reps.none _ _));intro v213 w13 ho14 hb hg_ hnew_;clear hg_ hnew_;(first | rw [← Ny212.out] at ho14 | (simp only [Int.reduceToNat] at ho14;rw [← Ny212.out] at ho14));refine as5_ (Kd.R_elder' (z2_ HO208.out) (Kd.R_base ho14) hb) (Kd.R_elder' (z2_ HO211.out) (Kd.R_base ho14) hb) (Kd.R_lower (Kd.R_new' (Kd.R_new' ho14 (Kd.R_lt (z2_ HO208.out))) (Kd.R_lt (z2_ HO211.out))) (below_size (z4_ HB.out GE205.out))) (blkB_ BK205.out hb) (below_step (z4_ HB.out GE205.out) hb) ?_;clear HO208 HO211 BK205 HB;intro HO208 HO211 HO214 BK205 HB;clear hb ho14) | ((with_reducible refine gd_ 27 ?_);(try (refine gate_guard (by rfl) ?_;dsimp only));refine Kd.R_lit (Kd.int .i64) _ 2 ?hg (N:=27) ?hd (xs:=([]:List Int)) (inner:=[]) (ok:=fun _=>True) (okp:=fun _=>True) ?hr ?hp (fun _ hk=>hk) trivial (Below.refl _ _) (Nat.le_refl _) (by simp) ?_;(case hd=>rfl);(case hg=>rfl);(case hr=>first | (go_simp;done) | (go_simp;rfl));(case hp=>exact (Reps.none _ _));intro v216 w15 ho16 hb hg_ hnew_;clear hg_ hnew_;(first | rw [← Ny215.out] at ho16 | (simp only [Int.reduceToNat] at ho16;rw [← Ny215.out] at ho16));refine as6_ (Kd.R_elder' (z2_ HO208.out) (Kd.R_base ho16) hb) (Kd.R_elder' (z2_ HO211.out) (Kd.R_base ho16) hb) (Kd.R_elder' (z2_ HO214.out) (Kd.R_base ho16) hb) (Kd.R_lower (Kd.R_new' (Kd.R_new' (Kd.R_new' ho16 (Kd.R_lt (z2_ HO208.out))) (Kd.R_lt (z2_ HO211.out))) (Kd.R_lt (z2_ HO214.out))) (below_size (z4_ HB.out GE205.out))) (blkB_ BK205.out hb) (below_step (z4_ HB.out GE205.out) hb) ?_;clear HO208 HO211 HO214 BK205 HB;intro HO208 HO211 HO214 HO217 BK205 HB;clear hb ho16))
 go_loopg [12,13,14,15] k (fun kq v12 v13 v14 v15 w'=>∃ (x12_1:Int) (x13_1:List Int) (x14_1:List Int) (x15_1:Int),v12 = .int .i64 x12_1∧v15 = .int .i64 x15_1∧Aside0 (spec_l04List.l0 kq l3 t206 t209 x12_1 x13_1 x14_1 x15_1=some (r1,r2))∧Aside0 (kq≤k)∧Aside0 (Kd.R (Kd.int .i64) 2 w' w.heap.size (fun k_=>some k_≠((.slice Ao12 t209.length co12):Value).ownBlock∧some k_≠(v13:Value).ownBlock∧some k_≠(v14:Value).ownBlock) v207 t206)∧Aside0 (Kd.R (Kd.int .i64) 2 w' w.heap.size (fun k_=>some k_≠(v207:Value).ownBlock∧some k_≠(v13:Value).ownBlock∧some k_≠(v14:Value).ownBlock) (.slice Ao12 t209.length co12) t209)∧Aside0 (Kd.R (Kd.int .i64) 2 w' w.heap.size (fun k_=>some k_≠(v207:Value).ownBlock∧some k_≠((.slice Ao12 t209.length co12):Value).ownBlock∧some k_≠(v14:Value).ownBlock) v13 x13_1)∧Aside0 (Kd.R (Kd.int .i64) 2 w' w.heap.size (fun k_=>some k_≠(v207:Value).ownBlock∧some k_≠((.slice Ao12 t209.length co12):Value).ownBlock∧some k_≠(v13:Value).ownBlock) v14 x14_1)∧Aside0 (w'.heap[gb205]? = some (.cells #[.int .i64 a0_0,(.slice A0_1 l0_1.length c0_1)] 30 (0,0)))∧Aside0 (Below w.heap.size w w'))
 case atStart=>exact ⟨((t209.length:Int)),(y212),(y215),(0),(z1_),(z1_),H',⟨Nat.le_refl _⟩,⟨z37_ HO208.out⟩,⟨z37_ HO211.out⟩,⟨z37_ HO214.out⟩,⟨z37_ HO217.out⟩,⟨z3_ BK205.out⟩,⟨z4_ HB.out GE205.out⟩⟩
 case round =>
  clear H'
  try clear c2
  try clear p2
  try clear c3
  try clear hcz10_0
  try clear hcz10_1
  try clear hcz8_0
  try clear hcz8_1
  try clear hfz10_0
  try clear hfz10_1
  try clear hfz8_0
  try clear hfz8_1
  obtain ⟨x12_1,x13_1,x14_1,x15_1,rfl,rfl,HA,HK1,HO_10,HO_11,HO_13,HO_14,BK205,HB⟩:=hrel
  cases gk with
  | zero=>exact absurd HA.out (by simp [spec_l04List.l0])
  | succ k1 =>
   have H:=HA.out
   clear HA
   simp only [spec_l04List.l0] at H
   by_cases c17:x15_1<(t209.length:Int)
   ·rw [if_pos c17] at H
    have c17b0:decide (x15_1<(t209.length:Int))=true:=decide_eq_true c17
    clear c17
    by_cases c18:0≤x15_1
    ·rw [if_pos c18] at H
     have c18b0:decide (0≤x15_1)=true:=decide_eq_true c18
     clear c18
     have H':=Aside0.mk H
     clear H
     have p218:0≤(x15_1:Int):=of_decide_eq_true (z0_)
     have q218:x15_1<(t209.length:Int):=of_decide_eq_true (z0_)
     obtain ⟨ad218,e218,hx218_0⟩:=Kd.at_int (Kd.R_reads' HO_11.out).2.2 x15_1 p218 q218
     cases e218
     replace p218:=eq_true p218
     replace q218:=eq_true q218
     go_wp2
     go_loopg [12,16] k1 (fun kq v12 v16 w'=>∃ (x12_2:Int) (x16_2:Int),v12 = .int .i64 x12_2∧v16 = .int .i64 x16_2∧Aside0 (spec_l04List.l1 kq l3 t206 t209 x12_2 x13_1 x14_1 x15_1 x16_2=some (r1,r2))∧Aside0 (kq≤k1)∧Aside0 (Kd.R (Kd.int .i64) 2 w' w.heap.size (fun k_=>some k_≠((.slice (some ad218) t209.length co12):Value).ownBlock∧some k_≠(u13:Value).ownBlock∧some k_≠(u14:Value).ownBlock) v207 t206)∧Aside0 (Kd.R (Kd.int .i64) 2 w' w.heap.size (fun k_=>some k_≠(v207:Value).ownBlock∧some k_≠(u13:Value).ownBlock∧some k_≠(u14:Value).ownBlock) (.slice (some ad218) t209.length co12) t209)∧Aside0 (Kd.R (Kd.int .i64) 2 w' w.heap.size (fun k_=>some k_≠(v207:Value).ownBlock∧some k_≠((.slice (some ad218) t209.length co12):Value).ownBlock∧some k_≠(u14:Value).ownBlock) u13 x13_1)∧Aside0 (Kd.R (Kd.int .i64) 2 w' w.heap.size (fun k_=>some k_≠(v207:Value).ownBlock∧some k_≠((.slice (some ad218) t209.length co12):Value).ownBlock∧some k_≠(u13:Value).ownBlock) u14 x14_1)∧Aside0 (w'.heap[gb205]? = some (.cells #[.int .i64 a0_0,(.slice A0_1 l0_1.length c0_1)] 30 (0,0)))∧Aside0 (Below w.heap.size w w'))
     case atStart=>exact ⟨(x12_1),(rd t209 x15_1),(z1_),(z1_),H',⟨Nat.le_refl _⟩,⟨z2_ HO_10.out⟩,⟨z2_ HO_11.out⟩,⟨z2_ HO_13.out⟩,⟨z2_ HO_14.out⟩,⟨z3_ BK205.out⟩,⟨z4_ HB.out GE205.out⟩⟩
     case round =>
      clear H'
      try clear c1
      try clear c2
      try clear p2
      try clear q2
      try clear hx2
      try clear c3
      try clear c17
      try clear c17b0
      try clear c18
      try clear c18b0
      try clear hcz10_0
      try clear hcz10_1
      try clear hcz8_0
      try clear hcz8_1
      try clear hfz10_0
      try clear hfz10_1
      try clear hfz8_0
      try clear hfz8_1
      try clear hx218_0
      try clear p2
      try clear p218
      try clear q218
      obtain ⟨x12_2,x16_2,rfl,rfl,HA,HK2,HO_10,HO_11,HO_13,HO_14,BK205,HB⟩:=hrel
      cases gk with
      | zero=>exact absurd HA.out (by simp [spec_l04List.l1])
      | succ k2 =>
       have H:=HA.out
       clear HA
       simp only [spec_l04List.l1] at H
       have HC19:=Aside0.mk H
       clear H
       go_upto_region 10 with (fail)
       go_cut [46] (fun v46 wc=>∃ (kq:Nat) (x46_18:Bool),v46 = .bool x46_18∧Aside0 (spec_l04List.j2 kq l3 t206 t209 x12_2 x13_1 x14_1 x15_1 x16_2 x46_18=some (r1,r2))∧Aside0 (kq≤k2)∧Aside0 (Kd.R (Kd.int .i64) 2 wc w.heap.size (fun k_=>some k_≠((.slice (some ad218) t209.length co12):Value).ownBlock∧some k_≠(u13:Value).ownBlock∧some k_≠(u14:Value).ownBlock) v207 t206)∧Aside0 (Kd.R (Kd.int .i64) 2 wc w.heap.size (fun k_=>some k_≠(v207:Value).ownBlock∧some k_≠(u13:Value).ownBlock∧some k_≠(u14:Value).ownBlock) (.slice (some ad218) t209.length co12) t209)∧Aside0 (Kd.R (Kd.int .i64) 2 wc w.heap.size (fun k_=>some k_≠(v207:Value).ownBlock∧some k_≠((.slice (some ad218) t209.length co12):Value).ownBlock∧some k_≠(u14:Value).ownBlock) u13 x13_1)∧Aside0 (Kd.R (Kd.int .i64) 2 wc w.heap.size (fun k_=>some k_≠(v207:Value).ownBlock∧some k_≠((.slice (some ad218) t209.length co12):Value).ownBlock∧some k_≠(u13:Value).ownBlock) u14 x14_1)∧Aside0 (wc.heap[gb205]? = some (.cells #[.int .i64 a0_0,(.slice A0_1 l0_1.length c0_1)] 30 (0,0)))∧Aside0 (Below w.heap.size w wc))
       case first =>
        have H:=HC19.out
        clear HC19
        replace H:=Option.bind_eq_some_iff.mp H
        obtain ⟨t219,A200,H⟩:=H
        replace H:(if t219=true then (spec_l04List.j2 k2 l3 t206 t209 x12_2 x13_1 x14_1 x15_1 x16_2 (decide (x12_2≤(t206.length:Int)))) else (spec_l04List.j2 k2 l3 t206 t209 x12_2 x13_1 x14_1 x15_1 x16_2 false))=some (r1,r2):=H
        have A20:=Aside0.mk A200
        clear A200
        by_cases c21:t219=true
        ·subst c21
         have H1:(spec_l04List.j2 k2 l3 t206 t209 x12_2 x13_1 x14_1 x15_1 x16_2 (decide (x12_2≤(t206.length:Int))))=some (r1,r2):=by rw [if_pos rfl] at H;exact H
         clear H
         have H:=H1
         clear H1
         have H':=Aside0.mk H
         clear H
         go_wp2_with (first | ((with_reducible refine gc_ 22 ?_);refine gl_ (some 40) Tryd.func22 #[.slice A3 l3.length c3,.int .i64 x16_2] ?_;(with_reducible refine (spec_l04Among.calls k2 _ _ l3 x16_2 true _ ?s1 ?s2 A20.out).mono ?_);(case s1=>repeat (first | exact (Kd.C_below HR3.out HB.out) | (with_reducible refine Kd.C_alloc ?_ _) | (with_reducible refine Kd.C_drewN ?_ _) | (with_reducible refine Kd.C_drew ?_)));(case s2=>exact HC3.out);rintro e w' ⟨rfl,⟨nd,rfl⟩⟩;refine ⟨_,rfl,?_⟩;obtain ⟨Ao22,co22,eo22⟩:=Kd.R_slice HO_10.out;subst eo22))
         go_meet
         case rel=>exact ⟨_,(decide (x12_2≤(t206.length:Int))),(z1_),H',⟨z29_ HK1.out HK2.out⟩,⟨z2_ HO_10.out⟩,⟨z2_ HO_11.out⟩,⟨z2_ HO_13.out⟩,⟨z2_ HO_14.out⟩,⟨z3_ BK205.out⟩,⟨z4_ HB.out GE205.out⟩⟩
        ·replace c21:=Bool.eq_false_iff.mpr c21
         subst c21
         have H1:(spec_l04List.j2 k2 l3 t206 t209 x12_2 x13_1 x14_1 x15_1 x16_2 false)=some (r1,r2):=by rw [if_neg (show ¬ (false=true) by decide)] at H;exact H
         clear H
         have H:=H1
         clear H1
         have H':=Aside0.mk H
         clear H
         go_wp2_with (first | ((with_reducible refine gc_ 22 ?_);refine gl_ (some 40) Tryd.func22 #[.slice A3 l3.length c3,.int .i64 x16_2] ?_;(with_reducible refine (spec_l04Among.calls k2 _ _ l3 x16_2 false _ ?s1 ?s2 A20.out).mono ?_);(case s1=>repeat (first | exact (Kd.C_below HR3.out HB.out) | (with_reducible refine Kd.C_alloc ?_ _) | (with_reducible refine Kd.C_drewN ?_ _) | (with_reducible refine Kd.C_drew ?_)));(case s2=>exact HC3.out);rintro e w' ⟨rfl,⟨nd,rfl⟩⟩;refine ⟨_,rfl,?_⟩))
         go_meet
         case rel=>exact ⟨_,(false),(z1_),H',⟨z29_ HK1.out HK2.out⟩,⟨z2_ HO_10.out⟩,⟨z2_ HO_11.out⟩,⟨z2_ HO_13.out⟩,⟨z2_ HO_14.out⟩,⟨z3_ BK205.out⟩,⟨z4_ HB.out GE205.out⟩⟩
       case rest =>
        clear HC19
        try clear c1
        try clear c2
        try clear p2
        try clear q2
        try clear hx2
        try clear c3
        try clear c17
        try clear c17b0
        try clear c18
        try clear c18b0
        try clear c21
        try clear p21
        try clear q21
        try clear hx21
        try clear c22
        try clear hcz10_0
        try clear hcz10_1
        try clear hcz8_0
        try clear hcz8_1
        try clear hfz10_0
        try clear hfz10_1
        try clear hfz8_0
        try clear hfz8_1
        try clear hx218_0
        try clear p2
        try clear p218
        try clear q2
        try clear q218
        obtain ⟨kq,x46_18,rfl,HA,HJ18,HO_10,HO_11,HO_13,HO_14,BK205,HB⟩:=hcut
        cases kq with
        | zero=>exact absurd HA.out (by simp [spec_l04List.j2])
        | succ kj18 =>
         have H:=HA.out
         clear HA
         simp only [spec_l04List.j2] at H
         by_cases c23:x46_18=true
         ·subst c23
          have H1:(if x12_2<(t206.length:Int) then (if 0≤x12_2 then (spec_l04List.l1 kj18 l3 t206 t209 (wrap64 (x12_2+1)) x13_1 x14_1 x15_1 (rd t206 x12_2)) else (none)) else (spec_l04List.l1 kj18 l3 t206 t209 (wrap64 (x12_2+1)) x13_1 x14_1 x15_1 x16_2))=some (r1,r2):=by rw [if_pos rfl] at H;exact H
          clear H
          have H:=H1
          clear H1
          by_cases c24:x12_2<(t206.length:Int)
          ·rw [if_pos c24] at H
           have c24b0:decide (x12_2<(t206.length:Int))=true:=decide_eq_true c24
           clear c24
           by_cases c25:0≤x12_2
           ·rw [if_pos c25] at H
            have c25b0:decide (0≤x12_2)=true:=decide_eq_true c25
            clear c25
            have H':=Aside0.mk H
            clear H
            obtain ⟨Ao26,co26,eo26⟩:=Kd.R_slice HO_10.out
            subst eo26
            have p220:0≤(x12_2:Int):=of_decide_eq_true (z0_)
            have q220:x12_2<(t206.length:Int):=of_decide_eq_true (z0_)
            obtain ⟨ad220,e220,hx220_0⟩:=Kd.at_int (Kd.R_reads' HO_10.out).2.2 x12_2 p220 q220
            cases e220
            replace p220:=eq_true p220
            replace q220:=eq_true q220
            go_wp2
            go_roundg kj18
            case measure=>have:=HK1.out;have:=HK2.out;have:=HJ18.out;omega
            case rel=>exact ⟨(wrap64 (x12_2+1)),(rd t206 x12_2),(z1_),(z1_),H',⟨by have:=HK1.out;have:=HK2.out;have:=HJ18.out;omega⟩,⟨z2_ HO_10.out⟩,⟨z2_ HO_11.out⟩,⟨z2_ HO_13.out⟩,⟨z2_ HO_14.out⟩,⟨z3_ BK205.out⟩,⟨z4_ HB.out GE205.out⟩⟩
           ·rw [if_neg c25] at H
            exact absurd H (by simp)
          ·rw [if_neg c24] at H
           have c24b0:decide (x12_2<(t206.length:Int))=false:=decide_eq_false c24
           clear c24
           have H':=Aside0.mk H
           clear H
           obtain ⟨Ao27,co27,eo27⟩:=Kd.R_slice HO_10.out
           subst eo27
           go_wp2
           go_roundg kj18
           case measure=>have:=HK1.out;have:=HK2.out;have:=HJ18.out;omega
           case rel=>exact ⟨(wrap64 (x12_2+1)),(x16_2),(z1_),(z1_),H',⟨by have:=HK1.out;have:=HK2.out;have:=HJ18.out;omega⟩,⟨z2_ HO_10.out⟩,⟨z2_ HO_11.out⟩,⟨z2_ HO_13.out⟩,⟨z2_ HO_14.out⟩,⟨z3_ BK205.out⟩,⟨z4_ HB.out GE205.out⟩⟩
         ·replace c23:=Bool.eq_false_iff.mpr c23
          subst c23
          have H1:((spec_l04Among.f kj18 l3 x16_2).bind fun t221=>(if t221=true then (spec_l04List.l0 kj18 l3 t206 t209 x12_2 x13_1 x14_1 (wrap64 (x15_1+1))) else (if x13_1.length<17592186044416 then (if 0≤x15_1 then (if x15_1<(t209.length:Int) then (if x14_1.length<17592186044416 then (spec_l04List.l0 kj18 l3 t206 t209 x12_2 (x13_1 ++ [x16_2]) (x14_1 ++ [rd t209 x15_1]) (wrap64 (x15_1+1))) else (none)) else (none)) else (none)) else (none))))=some (r1,r2):=by rw [if_neg (show ¬ (false=true) by decide)] at H;exact H
          clear H
          have H:=H1
          clear H1
          replace H:=Option.bind_eq_some_iff.mp H
          obtain ⟨t221,A280,H⟩:=H
          replace H:(if t221=true then (spec_l04List.l0 kj18 l3 t206 t209 x12_2 x13_1 x14_1 (wrap64 (x15_1+1))) else (if x13_1.length<17592186044416 then (if 0≤x15_1 then (if x15_1<(t209.length:Int) then (if x14_1.length<17592186044416 then (spec_l04List.l0 kj18 l3 t206 t209 x12_2 (x13_1 ++ [x16_2]) (x14_1 ++ [rd t209 x15_1]) (wrap64 (x15_1+1))) else (none)) else (none)) else (none)) else (none)))=some (r1,r2):=H
          have A28:=Aside0.mk A280
          clear A280
          by_cases c29:t221=true
          ·subst c29
           have H1:(spec_l04List.l0 kj18 l3 t206 t209 x12_2 x13_1 x14_1 (wrap64 (x15_1+1)))=some (r1,r2):=by rw [if_pos rfl] at H;exact H
           clear H
           have H:=H1
           clear H1
           have H':=Aside0.mk H
           clear H
           go_wp2_with (first | ((with_reducible refine gc_ 22 ?_);refine gl_ (some 59) Tryd.func22 #[.slice A3 l3.length c3,.int .i64 x16_2] ?_;(with_reducible refine (spec_l04Among.calls kj18 _ _ l3 x16_2 true _ ?s1 ?s2 A28.out).mono ?_);(case s1=>repeat (first | exact (Kd.C_below HR3.out HB.out) | (with_reducible refine Kd.C_alloc ?_ _) | (with_reducible refine Kd.C_drewN ?_ _) | (with_reducible refine Kd.C_drew ?_)));(case s2=>exact HC3.out);rintro e w' ⟨rfl,⟨nd,rfl⟩⟩;refine ⟨_,rfl,?_⟩))
           go_roundg kj18
           case measure=>have:=HK1.out;have:=HK2.out;have:=HJ18.out;omega
           case rel=>exact ⟨(x12_2),(x13_1),(x14_1),(wrap64 (x15_1+1)),(z1_),(z1_),H',⟨by have:=HK1.out;have:=HK2.out;have:=HJ18.out;omega⟩,⟨z2_ HO_10.out⟩,⟨z2_ HO_11.out⟩,⟨z2_ HO_13.out⟩,⟨z2_ HO_14.out⟩,⟨z3_ BK205.out⟩,⟨z4_ HB.out GE205.out⟩⟩
          ·replace c29:=Bool.eq_false_iff.mpr c29
           subst c29
           have H1:(if x13_1.length<17592186044416 then (if 0≤x15_1 then (if x15_1<(t209.length:Int) then (if x14_1.length<17592186044416 then (spec_l04List.l0 kj18 l3 t206 t209 x12_2 (x13_1 ++ [x16_2]) (x14_1 ++ [rd t209 x15_1]) (wrap64 (x15_1+1))) else (none)) else (none)) else (none)) else (none))=some (r1,r2):=by rw [if_neg (show ¬ (false=true) by decide)] at H;exact H
           clear H
           have H:=H1
           clear H1
           by_cases c30:x13_1.length<17592186044416
           ·rw [if_pos c30] at H
            have LMc30:=Aside0.mk c30
            clear c30
            obtain ⟨y222,hy222⟩:∃ y_:List Int,y_=(x13_1 ++ [x16_2]):=⟨_,rfl⟩
            replace H:(if 0≤x15_1 then (if x15_1<(t209.length:Int) then (if x14_1.length<17592186044416 then (spec_l04List.l0 kj18 l3 t206 t209 x12_2 y222 (x14_1 ++ [rd t209 x15_1]) (wrap64 (x15_1+1))) else (none)) else (none)) else (none))=some (r1,r2):=by first | (rw [hy222];with_reducible exact H) | (have H2_:=(Option.bind_some _ _).symm.trans H;rw [hy222];with_reducible exact H2_) | (have H2_:=(Option.bind_some _ _).symm.trans H;with_reducible exact H2_) | with_reducible exact H | (rw [hy222];exact H) | exact H
            have Ny222:=Aside0.mk hy222
            clear hy222
            by_cases c31:0≤x15_1
            ·rw [if_pos c31] at H
             have c31b0:decide (0≤x15_1)=true:=decide_eq_true c31
             clear c31
             by_cases c32:x15_1<(t209.length:Int)
             ·rw [if_pos c32] at H
              have c32b0:decide (x15_1<(t209.length:Int))=true:=decide_eq_true c32
              clear c32
              by_cases c33:x14_1.length<17592186044416
              ·rw [if_pos c33] at H
               have LMc33:=Aside0.mk c33
               clear c33
               obtain ⟨y226,hy226⟩:∃ y_:List Int,y_=(x14_1 ++ [rd t209 x15_1]):=⟨_,rfl⟩
               replace H:(spec_l04List.l0 kj18 l3 t206 t209 x12_2 y222 y226 (wrap64 (x15_1+1)))=some (r1,r2):=by first | (rw [hy226];with_reducible exact H) | (have H2_:=(Option.bind_some _ _).symm.trans H;rw [hy226];with_reducible exact H2_) | (have H2_:=(Option.bind_some _ _).symm.trans H;with_reducible exact H2_) | with_reducible exact H | (rw [hy226];exact H) | exact H
               have Ny226:=Aside0.mk hy226
               clear hy226
               have H':=Aside0.mk H
               clear H
               go_wp2_with (first | ((with_reducible refine gc_ 22 ?_);refine gl_ (some 59) Tryd.func22 #[.slice A3 l3.length c3,.int .i64 x16_2] ?_;(with_reducible refine (spec_l04Among.calls kj18 _ _ l3 x16_2 false _ ?s1 ?s2 A28.out).mono ?_);(case s1=>repeat (first | exact (Kd.C_below HR3.out HB.out) | (with_reducible refine Kd.C_alloc ?_ _) | (with_reducible refine Kd.C_drewN ?_ _) | (with_reducible refine Kd.C_drew ?_)));(case s2=>exact HC3.out);rintro e w' ⟨rfl,⟨nd,rfl⟩⟩;refine ⟨_,rfl,?_⟩) | ((with_reducible refine gate_builtin (b:=.append) (xs:=#[.tmp 61,.tmp 63]) rfl ?_);(try (refine gate_guard (by rfl) ?_;dsimp only));at_builtin;refine Kd.R_append (Kd.int .i64) (w0:=w) w.heap.size rfl (.tmp 61) (.tmp 63) 26 2 (.int .i64 0) 8 rfl Tryd.underlying26 info2 rfl (by decide) (by omega) u13 x13_1 x16_2 [.int .i64 x16_2] (fun k_=>some k_≠(v207:Value).ownBlock∧some k_≠(.slice (some ad218) t209.length co12:Value).ownBlock∧some k_≠(u14:Value).ownBlock) (fun _=>False) rfl rfl ?aP (fun _ hk=>hk.elim) ?aF ?aO ?aB ?aS ?aL ?_;(case aP=>exact rfl);(case aB=>exact (z4_ HB.out GE205.out));(case aF=>exact (fun k_ hk=>⟨Kd.fresh' (Kd.R_lt (z2_ HO_10.out)) k_ hk,Kd.fresh' (Kd.R_lt (z2_ HO_11.out)) k_ hk,Kd.fresh' (Kd.R_lt (z2_ HO_14.out)) k_ hk⟩));(case aO=>exact (z2_ HO_13.out));(case aS=>exact (below_size (z4_ HB.out GE205.out)));(case aL=>have:=LMc30.out;omega);intro v223 w34 ho hb hg hat;rw [← Ny222.out] at ho;refine as6_ (Kd.R_after (ok:=(fun k_=>some k_≠(.slice (some ad218) t209.length co12:Value).ownBlock∧some k_≠(u14:Value).ownBlock)) (by (with_reducible repeat (first | apply Kd.R_alloc | apply Kd.R_drewN | apply Kd.R_drew));exact Kd.R_mono HO_10.out (fun _ hk=>⟨⟨hk.1,hk.2.2⟩,hk.2.1⟩)) hg hat) (Kd.R_after (ok:=(fun k_=>some k_≠(v207:Value).ownBlock∧some k_≠(u14:Value).ownBlock)) (by (with_reducible repeat (first | apply Kd.R_alloc | apply Kd.R_drewN | apply Kd.R_drew));exact Kd.R_mono HO_11.out (fun _ hk=>⟨⟨hk.1,hk.2.2⟩,hk.2.1⟩)) hg hat) (Kd.R_after (ok:=(fun k_=>some k_≠(v207:Value).ownBlock∧some k_≠(.slice (some ad218) t209.length co12:Value).ownBlock)) (by (with_reducible repeat (first | apply Kd.R_alloc | apply Kd.R_drewN | apply Kd.R_drew));exact Kd.R_mono HO_14.out (fun _ hk=>⟨⟨hk.1,hk.2.1⟩,hk.2.2⟩)) hg hat) (blk_grown (g:=gb205) (o:=.cells #[.int .i64 a0_0,.slice A0_1 l0_1.length c0_1] 30 (0,0)) (z3_ BK205.out) hg (Kd.R_ne HO_13.out BK205.out (by decide))) (hb) (ho) ?_;clear HO_10 HO_11 HO_14 BK205 HB HO_13;intro HO_10 HO_11 HO_14 BK205 HB HO224;clear ho hb hg hat;have p225:0≤(x15_1:Int):=of_decide_eq_true (z0_);have q225:x15_1<(t209.length:Int):=of_decide_eq_true (z0_);obtain ⟨ad225,e225,hx225_0⟩:=Kd.at_int (Kd.R_reads' HO_11.out).2.2 x15_1 p225 q225;obtain rfl:ad218=ad225:=(by injection e225);replace p225:=eq_true p225;replace q225:=eq_true q225) | ((with_reducible refine gate_builtin (b:=.append) (xs:=#[.tmp 65,.tmp 70]) rfl ?_);(try (refine gate_guard (by rfl) ?_;dsimp only));at_builtin;refine Kd.R_append (Kd.int .i64) (w0:=w) w.heap.size rfl (.tmp 65) (.tmp 70) 26 2 (.int .i64 0) 8 rfl Tryd.underlying26 info2 rfl (by decide) (by omega) u14 x14_1 (rd t209 x15_1) [.int .i64 (rd t209 x15_1)] (fun k_=>some k_≠(v207:Value).ownBlock∧some k_≠(.slice (some ad218) t209.length co12:Value).ownBlock∧some k_≠(v223:Value).ownBlock) (fun _=>False) rfl rfl ?aP (fun _ hk=>hk.elim) ?aF ?aO ?aB ?aS ?aL ?_;(case aP=>exact rfl);(case aB=>exact (z4_ HB.out GE205.out));(case aF=>exact (fun k_ hk=>⟨Kd.fresh' (Kd.R_lt (z2_ HO_10.out)) k_ hk,Kd.fresh' (Kd.R_lt (z2_ HO_11.out)) k_ hk,Kd.fresh' (Kd.R_lt (z2_ HO224.out)) k_ hk⟩));(case aO=>exact (z38_ HO_14.out));(case aS=>exact (below_size (z4_ HB.out GE205.out)));(case aL=>have:=LMc33.out;omega);intro v227 w35 ho hb hg hat;rw [← Ny226.out] at ho;refine as6_ (Kd.R_after (ok:=(fun k_=>some k_≠(.slice (some ad218) t209.length co12:Value).ownBlock∧some k_≠(v223:Value).ownBlock)) (by (with_reducible repeat (first | apply Kd.R_alloc | apply Kd.R_drewN | apply Kd.R_drew));exact Kd.R_mono HO_10.out (fun _ hk=>⟨⟨hk.1.1,hk.2⟩,hk.1.2⟩)) hg hat) (Kd.R_after (ok:=(fun k_=>some k_≠(v207:Value).ownBlock∧some k_≠(v223:Value).ownBlock)) (by (with_reducible repeat (first | apply Kd.R_alloc | apply Kd.R_drewN | apply Kd.R_drew));exact Kd.R_mono HO_11.out (fun _ hk=>⟨⟨hk.1.1,hk.2⟩,hk.1.2⟩)) hg hat) (blk_grown (g:=gb205) (o:=.cells #[.int .i64 a0_0,.slice A0_1 l0_1.length c0_1] 30 (0,0)) (z3_ BK205.out) hg (Kd.R_ne HO_14.out BK205.out (by decide))) (Kd.R_after (ok:=(fun k_=>some k_≠(v207:Value).ownBlock∧some k_≠(.slice (some ad218) t209.length co12:Value).ownBlock)) (by (with_reducible repeat (first | apply Kd.R_alloc | apply Kd.R_drewN | apply Kd.R_drew));exact Kd.R_mono HO224.out (fun _ hk=>⟨⟨hk.1,hk.2.1⟩,hk.2.2⟩)) hg hat) (hb) (ho) ?_;clear HO_10 HO_11 BK205 HO224 HB HO_14;intro HO_10 HO_11 BK205 HO224 HB HO228;clear ho hb hg hat))
               go_roundg kj18
               case measure=>have:=HK1.out;have:=HK2.out;have:=HJ18.out;omega
               case rel=>exact ⟨(x12_2),(y222),(y226),(wrap64 (x15_1+1)),(z1_),(z1_),H',⟨by have:=HK1.out;have:=HK2.out;have:=HJ18.out;omega⟩,⟨z38_ HO_10.out⟩,⟨z38_ HO_11.out⟩,⟨z38_ HO224.out⟩,⟨z2_ HO228.out⟩,⟨z3_ BK205.out⟩,⟨z4_ HB.out GE205.out⟩⟩
              ·rw [if_neg c33] at H
               exact absurd H (by simp)
             ·rw [if_neg c32] at H
              exact absurd H (by simp)
            ·rw [if_neg c31] at H
             exact absurd H (by simp)
           ·rw [if_neg c30] at H
            exact absurd H (by simp)
    ·rw [if_neg c18] at H
     exact absurd H (by simp)
   ·rw [if_neg c17] at H
    have c17b0:decide (x15_1<(t209.length:Int))=false:=decide_eq_false c17
    clear c17
    simp only [Option.some.injEq,Prod.mk.injEq] at H
    obtain ⟨rfl,rfl⟩:=H
    go_wp2
    go_ret2
    exact ⟨_,_,z10_,by (with_reducible repeat (first | apply Kd.R_alloc | apply Kd.R_drewN | apply Kd.R_drew));exact Kd.R_mono HO_13.out (fun _ hk=>hk.2.2),by (with_reducible repeat (first | apply Kd.R_alloc | apply Kd.R_drewN | apply Kd.R_drew));exact Kd.R_mono HO_14.out (fun _ hk=>hk.2.2),z4_ HB.out GE205.out⟩


/-! ### spec_StandIns: function 14 -/
def spec_StandIns.j0:Nat→ByteArray→Int→List Int→Bool→Int→List (S59)→Option (List Int)
 | 0,_,_,_,_,_,_=>none
 | k+1,x1,x2,x3,x28,x230000,x230001=>if x28=true then (some (([]:List Int))) else ((spec_l04List.f k x230000 x230001 x1 x2 x3).bind fun bt237=>(some bt237.1))
def spec_StandIns.f (k:Nat) (a0_0:Int) (l0_1:List (S59)) (a1:ByteArray) (a2:Int) (l3:List Int):Option (List Int):=(spec_RingRight.f k a0_0 l0_1).bind fun t230=>(if t230=true then ((spec_NameRight.f k a1).bind fun t231=>(if t231=true then ((spec_l02Node.f a2).bind fun t232=>(if t232=true then ((spec_l04Down.f k l3).bind fun t233=>(spec_StandIns.j0 k a1 a2 l3 (!t233) a0_0 l0_1)) else (spec_StandIns.j0 k a1 a2 l3 true a0_0 l0_1))) else (spec_StandIns.j0 k a1 a2 l3 true a0_0 l0_1))) else (spec_StandIns.j0 k a1 a2 l3 true a0_0 l0_1))
theorem spec_StandIns.mono_l:∀ k,(∀ y0 y1 y2 y3 y4 y5,LeO (spec_StandIns.j0 k y0 y1 y2 y3 y4 y5) (spec_StandIns.j0 (k+1) y0 y1 y2 y3 y4 y5))
 | 0=>fun _ _ _ _ _ _ r h=>by simp [spec_StandIns.j0] at h
 | k+1=>by
  have ih0:=spec_StandIns.mono_l k
  ·intro y0 y1 y2 y3 y4 y5
   unfold spec_StandIns.j0
   repeat' first
   | (with_reducible exact ih0 _ _ _ _ _ _)
   | (with_reducible exact spec_NameRight.mono _ _)
   | (with_reducible exact spec_RingRight.mono _ _ _)
   | (with_reducible exact spec_l04Down.mono _ _)
   | (with_reducible exact spec_l04List.mono _ _ _ _ _ _)
   | (with_reducible exact LeO.refl _)
   | (with_reducible exact LeO.none _)
   | (with_reducible refine LeO.ite ?_ ?_)
   | (with_reducible refine LeO.bind ?_ (fun _=>?_))
   | exact ih0 _ _ _ _ _ _
   | exact spec_NameRight.mono _ _
   | exact spec_RingRight.mono _ _ _
   | exact spec_l04Down.mono _ _
   | exact spec_l04List.mono _ _ _ _ _ _
   | exact LeO.none _
   | refine LeO.ite ?_ ?_
   | refine LeO.bind ?_ (fun _=>?_)
theorem spec_StandIns.mono:∀ a0 a1 a2 a3 a4 k,LeO (spec_StandIns.f k a0 a1 a2 a3 a4) (spec_StandIns.f (k+1) a0 a1 a2 a3 a4):=by
 intro a0 a1 a2 a3 a4 k
 have ih0:=spec_StandIns.mono_l k
 unfold spec_StandIns.f
 repeat' first
   | (with_reducible exact ih0 _ _ _ _ _ _)
   | (with_reducible exact spec_NameRight.mono _ _)
   | (with_reducible exact spec_RingRight.mono _ _ _)
   | (with_reducible exact spec_l04Down.mono _ _)
   | (with_reducible exact spec_l04List.mono _ _ _ _ _ _)
   | (with_reducible exact LeO.refl _)
   | (with_reducible exact LeO.none _)
   | (with_reducible refine LeO.ite ?_ ?_)
   | (with_reducible refine LeO.bind ?_ (fun _=>?_))
   | exact ih0 _ _ _ _ _ _
   | exact spec_NameRight.mono _ _
   | exact spec_RingRight.mono _ _ _
   | exact spec_l04Down.mono _ _
   | exact spec_l04List.mono _ _ _ _ _ _
   | exact LeO.none _
   | refine LeO.ite ?_ ?_
   | refine LeO.bind ?_ (fun _=>?_)
set_option maxHeartbeats 8000000 in
set_option maxRecDepth 100000 in
theorem spec_StandIns.calls (k:Nat) (a0_0:Int) (A0_1:Option Addr) (c0_1:Nat) (l0_1:List (S59)) (a1:ByteArray) (a2:Int) (A3:Option Addr) (c3:Nat) (l3:List Int) (r:List Int) (w:World) (hr0_1:Kd.C k59 w A0_1 l0_1.length l0_1) (hc0_1:l0_1.length≤c0_1) (hr3:Kd.C (Kd.int .i64) w A3 l3.length l3) (hc3:l3.length≤c3) (h:spec_StandIns.f k a0_0 l0_1 a1 a2 l3=some r) :
  Calls Tryd.prog 14 #[.agg #[.int .i64 a0_0,.slice A0_1 l0_1.length c0_1],.string a1,.int .i64 a2,.slice A3 l3.length c3] w fun e w'=>∃ v0_:Value,e = .returned (v0_)∧Kd.R (Kd.int .i64) 2 w' w.heap.size (fun _=>True) v0_ r∧Below w.heap.size w w':=by
 have hu30:=Tryd.underlying30
 have HR0_1:=Aside0.mk hr0_1
 have HC0_1:=Aside0.mk hc0_1
 clear hr0_1 hc0_1
 have HR3:=Aside0.mk hr3
 have HC3:=Aside0.mk hc3
 clear hr3 hc3
 have HB:=Aside0.mk (Below.refl w.heap.size w)
 have H:((spec_RingRight.f k a0_0 l0_1).bind fun t230=>(if t230=true then ((spec_NameRight.f k a1).bind fun t231=>(if t231=true then ((spec_l02Node.f a2).bind fun t232=>(if t232=true then ((spec_l04Down.f k l3).bind fun t233=>(spec_StandIns.j0 k a1 a2 l3 (!t233) a0_0 l0_1)) else (spec_StandIns.j0 k a1 a2 l3 true a0_0 l0_1))) else (spec_StandIns.j0 k a1 a2 l3 true a0_0 l0_1))) else (spec_StandIns.j0 k a1 a2 l3 true a0_0 l0_1)))=some r:=h
 clear h
 have HC5:=Aside0.mk H
 clear H
 go_enter Tryd.func14,Tryd.ntmps14
 go_upto_region 1 with (first | ((with_reducible refine gd_ 4 ?_);refine be_ 4 #[.int .i64 a0_0,.slice A0_1 l0_1.length c0_1] 30 ?_;intro gb229 hg w6 hbox hb;refine as4_ (below_step (z6_ HB.out) hb) (hbox) ((z8_ HB.out:w.heap.size≤gb229)) ((z8_ HB.out:w.heap.size≤gb229)) ?_;clear HB;intro HB BK229 GW229 GE229;clear hb hbox hg))
 (try simp only [Act.put,sa_,s0_,ss_])
 go_cut [28] (fun v28 wc=>∃ (kq:Nat) (x28_4:Bool),v28 = .bool x28_4∧Aside0 (spec_StandIns.j0 kq a1 a2 l3 x28_4 a0_0 l0_1=some r)∧Aside0 (kq≤k)∧Aside0 (wc.heap[gb229]? = some (.cells #[.int .i64 a0_0,(.slice A0_1 l0_1.length c0_1)] 30 (0,0)))∧Aside0 (Below w.heap.size w wc))
 case first =>
  have H:=HC5.out
  clear HC5
  replace H:=Option.bind_eq_some_iff.mp H
  obtain ⟨t230,A70,H⟩:=H
  replace H:(if t230=true then ((spec_NameRight.f k a1).bind fun t231=>(if t231=true then ((spec_l02Node.f a2).bind fun t232=>(if t232=true then ((spec_l04Down.f k l3).bind fun t233=>(spec_StandIns.j0 k a1 a2 l3 (!t233) a0_0 l0_1)) else (spec_StandIns.j0 k a1 a2 l3 true a0_0 l0_1))) else (spec_StandIns.j0 k a1 a2 l3 true a0_0 l0_1))) else (spec_StandIns.j0 k a1 a2 l3 true a0_0 l0_1))=some r:=H
  have A7:=Aside0.mk A70
  clear A70
  by_cases c8:t230=true
  ·subst c8
   have H1:((spec_NameRight.f k a1).bind fun t231=>(if t231=true then ((spec_l02Node.f a2).bind fun t232=>(if t232=true then ((spec_l04Down.f k l3).bind fun t233=>(spec_StandIns.j0 k a1 a2 l3 (!t233) a0_0 l0_1)) else (spec_StandIns.j0 k a1 a2 l3 true a0_0 l0_1))) else (spec_StandIns.j0 k a1 a2 l3 true a0_0 l0_1)))=some r:=by rw [if_pos rfl] at H;exact H
   clear H
   have H:=H1
   clear H1
   replace H:=Option.bind_eq_some_iff.mp H
   obtain ⟨t231,A90,H⟩:=H
   replace H:(if t231=true then ((spec_l02Node.f a2).bind fun t232=>(if t232=true then ((spec_l04Down.f k l3).bind fun t233=>(spec_StandIns.j0 k a1 a2 l3 (!t233) a0_0 l0_1)) else (spec_StandIns.j0 k a1 a2 l3 true a0_0 l0_1))) else (spec_StandIns.j0 k a1 a2 l3 true a0_0 l0_1))=some r:=H
   have A9:=Aside0.mk A90
   clear A90
   by_cases c10:t231=true
   ·subst c10
    have H1:((spec_l02Node.f a2).bind fun t232=>(if t232=true then ((spec_l04Down.f k l3).bind fun t233=>(spec_StandIns.j0 k a1 a2 l3 (!t233) a0_0 l0_1)) else (spec_StandIns.j0 k a1 a2 l3 true a0_0 l0_1)))=some r:=by rw [if_pos rfl] at H;exact H
    clear H
    have H:=H1
    clear H1
    replace H:=Option.bind_eq_some_iff.mp H
    obtain ⟨t232,A110,H⟩:=H
    replace H:(if t232=true then ((spec_l04Down.f k l3).bind fun t233=>(spec_StandIns.j0 k a1 a2 l3 (!t233) a0_0 l0_1)) else (spec_StandIns.j0 k a1 a2 l3 true a0_0 l0_1))=some r:=H
    have A11:=Aside0.mk A110
    clear A110
    by_cases c12:t232=true
    ·subst c12
     have H1:((spec_l04Down.f k l3).bind fun t233=>(spec_StandIns.j0 k a1 a2 l3 (!t233) a0_0 l0_1))=some r:=by rw [if_pos rfl] at H;exact H
     clear H
     have H:=H1
     clear H1
     replace H:=Option.bind_eq_some_iff.mp H
     obtain ⟨t233,A130,H⟩:=H
     replace H:(spec_StandIns.j0 k a1 a2 l3 (!t233) a0_0 l0_1)=some r:=H
     have A13:=Aside0.mk A130
     clear A130
     have H':=Aside0.mk H
     clear H
     have ⟨hcz14_0,hcz14_1,hfz14_0,hfz14_1⟩:=cz2_ BK229.out
     go_wp2_with (first | ((with_reducible refine gc_ 18 ?_);refine gl_ (some 12) Tryd.func18 #[.agg #[.int .i64 a0_0,.slice A0_1 l0_1.length c0_1]] ?_;(with_reducible refine (spec_RingRight.calls k a0_0 _ _ l0_1 true _ ?s1 ?s2 A7.out).mono ?_);(case s1=>repeat (first | exact (Kd.C_below HR0_1.out HB.out) | (with_reducible refine Kd.C_alloc ?_ _) | (with_reducible refine Kd.C_drewN ?_ _) | (with_reducible refine Kd.C_drew ?_)));(case s2=>exact HC0_1.out);rintro e w15 ⟨rfl,hb⟩;refine ⟨_,rfl,?_⟩;refine as2_ (blkB_ BK229.out hb) (below_step (z4_ HB.out GE229.out) hb) ?_;clear BK229 HB;intro BK229 HB;(try clear hb)) | (go_at_call 19;(with_reducible refine (spec_NameRight.calls k a1 true _ A9.out).mono ?_);rintro e w' ⟨rfl,⟨nd,rfl⟩⟩) | (go_at_call 20;(with_reducible refine (spec_l02Node.calls a2 true _ A11.out).mono ?_);rintro e w' ⟨rfl,⟨nd,rfl⟩⟩) | (go_at_call 30;(with_reducible refine (spec_l04Down.calls k _ _ l3 t233 _ ?s1 ?s2 A13.out).mono ?_);(case s1=>repeat (first | exact (Kd.C_below HR3.out (z4_ HB.out GE229.out)) | (with_reducible refine Kd.C_alloc ?_ _) | (with_reducible refine Kd.C_drewN ?_ _) | (with_reducible refine Kd.C_drew ?_)));(case s2=>exact HC3.out);rintro e w' ⟨rfl,⟨nd,rfl⟩⟩))
     go_meet
     case rel=>exact ⟨_,(!t233),(z1_),H',⟨by first | omega | exact Nat.le_refl _⟩,⟨z3_ BK229.out⟩,⟨z4_ HB.out GE229.out⟩⟩
    ·replace c12:=Bool.eq_false_iff.mpr c12
     subst c12
     have H1:(spec_StandIns.j0 k a1 a2 l3 true a0_0 l0_1)=some r:=by rw [if_neg (show ¬ (false=true) by decide)] at H;exact H
     clear H
     have H:=H1
     clear H1
     have H':=Aside0.mk H
     clear H
     have ⟨hcz16_0,hcz16_1,hfz16_0,hfz16_1⟩:=cz2_ BK229.out
     go_wp2_with (first | ((with_reducible refine gc_ 18 ?_);refine gl_ (some 12) Tryd.func18 #[.agg #[.int .i64 a0_0,.slice A0_1 l0_1.length c0_1]] ?_;(with_reducible refine (spec_RingRight.calls k a0_0 _ _ l0_1 true _ ?s1 ?s2 A7.out).mono ?_);(case s1=>repeat (first | exact (Kd.C_below HR0_1.out HB.out) | (with_reducible refine Kd.C_alloc ?_ _) | (with_reducible refine Kd.C_drewN ?_ _) | (with_reducible refine Kd.C_drew ?_)));(case s2=>exact HC0_1.out);rintro e w17 ⟨rfl,hb⟩;refine ⟨_,rfl,?_⟩;refine as2_ (blkB_ BK229.out hb) (below_step (z4_ HB.out GE229.out) hb) ?_;clear BK229 HB;intro BK229 HB;(try clear hb)) | (go_at_call 19;(with_reducible refine (spec_NameRight.calls k a1 true _ A9.out).mono ?_);rintro e w' ⟨rfl,⟨nd,rfl⟩⟩) | (go_at_call 20;(with_reducible refine (spec_l02Node.calls a2 false _ A11.out).mono ?_);rintro e w' ⟨rfl,⟨nd,rfl⟩⟩))
     go_meet
     case rel=>exact ⟨_,(true),(z1_),H',⟨by first | omega | exact Nat.le_refl _⟩,⟨z3_ BK229.out⟩,⟨z4_ HB.out GE229.out⟩⟩
   ·replace c10:=Bool.eq_false_iff.mpr c10
    subst c10
    have H1:(spec_StandIns.j0 k a1 a2 l3 true a0_0 l0_1)=some r:=by rw [if_neg (show ¬ (false=true) by decide)] at H;exact H
    clear H
    have H:=H1
    clear H1
    have H':=Aside0.mk H
    clear H
    have ⟨hcz18_0,hcz18_1,hfz18_0,hfz18_1⟩:=cz2_ BK229.out
    go_wp2_with (first | ((with_reducible refine gc_ 18 ?_);refine gl_ (some 12) Tryd.func18 #[.agg #[.int .i64 a0_0,.slice A0_1 l0_1.length c0_1]] ?_;(with_reducible refine (spec_RingRight.calls k a0_0 _ _ l0_1 true _ ?s1 ?s2 A7.out).mono ?_);(case s1=>repeat (first | exact (Kd.C_below HR0_1.out HB.out) | (with_reducible refine Kd.C_alloc ?_ _) | (with_reducible refine Kd.C_drewN ?_ _) | (with_reducible refine Kd.C_drew ?_)));(case s2=>exact HC0_1.out);rintro e w19 ⟨rfl,hb⟩;refine ⟨_,rfl,?_⟩;refine as2_ (blkB_ BK229.out hb) (below_step (z4_ HB.out GE229.out) hb) ?_;clear BK229 HB;intro BK229 HB;(try clear hb)) | (go_at_call 19;(with_reducible refine (spec_NameRight.calls k a1 false _ A9.out).mono ?_);rintro e w' ⟨rfl,⟨nd,rfl⟩⟩))
    go_meet
    case rel=>exact ⟨_,(true),(z1_),H',⟨by first | omega | exact Nat.le_refl _⟩,⟨z3_ BK229.out⟩,⟨z4_ HB.out GE229.out⟩⟩
  ·replace c8:=Bool.eq_false_iff.mpr c8
   subst c8
   have H1:(spec_StandIns.j0 k a1 a2 l3 true a0_0 l0_1)=some r:=by rw [if_neg (show ¬ (false=true) by decide)] at H;exact H
   clear H
   have H:=H1
   clear H1
   have H':=Aside0.mk H
   clear H
   have ⟨hcz20_0,hcz20_1,hfz20_0,hfz20_1⟩:=cz2_ BK229.out
   go_wp2_with (first | ((with_reducible refine gc_ 18 ?_);refine gl_ (some 12) Tryd.func18 #[.agg #[.int .i64 a0_0,.slice A0_1 l0_1.length c0_1]] ?_;(with_reducible refine (spec_RingRight.calls k a0_0 _ _ l0_1 false _ ?s1 ?s2 A7.out).mono ?_);(case s1=>repeat (first | exact (Kd.C_below HR0_1.out HB.out) | (with_reducible refine Kd.C_alloc ?_ _) | (with_reducible refine Kd.C_drewN ?_ _) | (with_reducible refine Kd.C_drew ?_)));(case s2=>exact HC0_1.out);rintro e w21 ⟨rfl,hb⟩;refine ⟨_,rfl,?_⟩;refine as2_ (blkB_ BK229.out hb) (below_step (z4_ HB.out GE229.out) hb) ?_;clear BK229 HB;intro BK229 HB;(try clear hb)))
   go_meet
   case rel=>exact ⟨_,(true),(z1_),H',⟨by first | omega | exact Nat.le_refl _⟩,⟨z3_ BK229.out⟩,⟨z4_ HB.out GE229.out⟩⟩
 case rest =>
  clear HC5
  try clear c1
  try clear p2
  try clear c3
  try clear c8
  try clear c10
  try clear c12
  try clear c14
  try clear c18
  try clear hcz14_0
  try clear hcz14_1
  try clear hcz16_0
  try clear hcz16_1
  try clear hcz18_0
  try clear hcz18_1
  try clear hcz20_0
  try clear hcz20_1
  try clear hfz14_0
  try clear hfz14_1
  try clear hfz16_0
  try clear hfz16_1
  try clear hfz18_0
  try clear hfz18_1
  try clear hfz20_0
  try clear hfz20_1
  obtain ⟨kq,x28_4,rfl,HA,HJ4,BK229,HB⟩:=hcut
  cases kq with
  | zero=>exact absurd HA.out (by simp [spec_StandIns.j0])
  | succ kj4 =>
   have H:=HA.out
   clear HA
   simp only [spec_StandIns.j0] at H
   by_cases c22:x28_4=true
   ·subst c22
    have H1:(some (([]:List Int)))=some r:=by rw [if_pos rfl] at H;exact H
    clear H
    have H:=H1
    clear H1
    obtain ⟨y234,hy234⟩:∃ y_:List Int,y_=(([]:List Int)):=⟨_,rfl⟩
    replace H:(some y234)=some r:=by first | (rw [hy234];with_reducible exact H) | (have H2_:=(Option.bind_some _ _).symm.trans H;rw [hy234];with_reducible exact H2_) | (have H2_:=(Option.bind_some _ _).symm.trans H;with_reducible exact H2_) | with_reducible exact H | (rw [hy234];exact H) | exact H
    have Ny234:=Aside0.mk hy234
    clear hy234
    obtain rfl:=Option.some.inj H
    go_wp2_with (first | ((with_reducible refine gd_ 29 ?_);refine Kd.R_lit (Kd.int .i64) _ 2 ?hg (N:=29) ?hd (xs:=([]:List Int)) (inner:=[]) (ok:=fun _=>True) (okp:=fun _=>True) ?hr ?hp (fun _ hk=>hk) trivial (Below.refl _ _) (Nat.le_refl _) (by simp) ?_;(case hd=>rfl);(case hg=>rfl);(case hr=>first | (go_simp;done) | (go_simp;rfl));(case hp=>exact (Reps.none _ _));intro v235 w23 ho24 hb hg_ hnew_;clear hg_ hnew_;(first | rw [← Ny234.out] at ho24 | (simp only [Int.reduceToNat] at ho24;rw [← Ny234.out] at ho24));refine as3_ (Kd.R_lower ho24 (below_size (z4_ HB.out GE229.out))) (blkB_ BK229.out hb) (below_step (z4_ HB.out GE229.out) hb) ?_;clear BK229 HB;intro HO236 BK229 HB;clear hb ho24))
    go_ret
    exact ⟨_,z10_,z2_ HO236.out,z4_ HB.out GE229.out⟩
   ·replace c22:=Bool.eq_false_iff.mpr c22
    subst c22
    have H1:((spec_l04List.f kj4 a0_0 l0_1 a1 a2 l3).bind fun bt237=>(some bt237.1))=some r:=by rw [if_neg (show ¬ (false=true) by decide)] at H;exact H
    clear H
    have H:=H1
    clear H1
    replace H:=Option.bind_eq_some_iff.mp H
    obtain ⟨⟨t237,t240⟩,A250,H⟩:=H
    replace H:(some t237)=some r:=H
    have A25:=Aside0.mk A250
    clear A250
    obtain rfl:=Option.some.inj H
    have ⟨hcz26_0,hcz26_1,hfz26_0,hfz26_1⟩:=cz2_ BK229.out
    go_wp2_with (first | ((with_reducible refine gc_ 31 ?_);refine gl_ (some 35) Tryd.func31 #[.agg #[.int .i64 a0_0,.slice A0_1 l0_1.length c0_1],.string a1,.int .i64 a2,.slice A3 l3.length c3] ?_;(with_reducible refine (spec_l04List.calls kj4 a0_0 _ _ l0_1 a1 a2 _ _ l3 t237 t240 _ ?s1 ?s2 ?s3 ?s4 A25.out).mono ?_);(case s1=>repeat (first | exact (Kd.C_below HR0_1.out HB.out) | (with_reducible refine Kd.C_alloc ?_ _) | (with_reducible refine Kd.C_drewN ?_ _) | (with_reducible refine Kd.C_drew ?_)));(case s2=>exact HC0_1.out);(case s3=>repeat (first | exact (Kd.C_below HR3.out HB.out) | (with_reducible refine Kd.C_alloc ?_ _) | (with_reducible refine Kd.C_drewN ?_ _) | (with_reducible refine Kd.C_drew ?_)));(case s4=>exact HC3.out);rintro e w27 ⟨v238,v241,rfl,ho0,ho1,hb⟩;refine ⟨_,rfl,?_⟩;refine as4_ (Kd.R_lower ho0 (below_size (z4_ HB.out GE229.out))) (Kd.R_lower ho1 (below_size (z4_ HB.out GE229.out))) (blkB_ BK229.out hb) (below_step (z4_ HB.out GE229.out) hb) ?_;clear BK229 HB;intro HO239 HO242 BK229 HB;(try clear hb);(try clear ho0);(try clear ho1)))
    go_ret
    exact ⟨_,z10_,z34_ HO239.out,z4_ HB.out GE229.out⟩


/-! ### laws_toInt64S: function 15 -/
def laws_toInt64S.l0:Nat→List Int→List Int→Int→Option (List Int)
 | 0,_,_,_=>none
 | k+1,x0,x3,x4=>if x4<(x0.length:Int) then (if 0≤x4 then (if x4<(x3.length:Int) then (laws_toInt64S.l0 k x0 (x3.set (x4:Int).toNat (rd x0 x4)) (wrap64 (x4+1))) else (none)) else (none)) else (some x3)
def laws_toInt64S.f (k:Nat) (l0:List Int):Option (List Int):=if 0≤(l0.length:Int) then (if ((l0.length:Int):Int).toNat≤35184372088832 then (laws_toInt64S.l0 k l0 (List.replicate ((l0.length:Int):Int).toNat 0) 0) else (none)) else (none)
theorem laws_toInt64S.mono_l:∀ k,(∀ y0 y1 y2,LeO (laws_toInt64S.l0 k y0 y1 y2) (laws_toInt64S.l0 (k+1) y0 y1 y2))
 | 0=>fun _ _ _ r h=>by simp [laws_toInt64S.l0] at h
 | k+1=>by
  have ih0:=laws_toInt64S.mono_l k
  ·intro y0 y1 y2
   unfold laws_toInt64S.l0
   repeat' first
   | (with_reducible exact ih0 _ _ _)
   | (with_reducible exact LeO.refl _)
   | (with_reducible exact LeO.none _)
   | (with_reducible refine LeO.ite ?_ ?_)
   | (with_reducible refine LeO.bind ?_ (fun _=>?_))
   | exact ih0 _ _ _
   | exact LeO.none _
   | refine LeO.ite ?_ ?_
   | refine LeO.bind ?_ (fun _=>?_)
theorem laws_toInt64S.mono:∀ a0 k,LeO (laws_toInt64S.f k a0) (laws_toInt64S.f (k+1) a0):=by
 intro a0 k
 have ih0:=laws_toInt64S.mono_l k
 unfold laws_toInt64S.f
 repeat' first
   | (with_reducible exact ih0 _ _ _)
   | (with_reducible exact LeO.refl _)
   | (with_reducible exact LeO.none _)
   | (with_reducible refine LeO.ite ?_ ?_)
   | (with_reducible refine LeO.bind ?_ (fun _=>?_))
   | exact ih0 _ _ _
   | exact LeO.none _
   | refine LeO.ite ?_ ?_
   | refine LeO.bind ?_ (fun _=>?_)
set_option maxHeartbeats 8000000 in
set_option maxRecDepth 100000 in
theorem laws_toInt64S.calls (k:Nat) (A0:Option Addr) (c0:Nat) (l0:List Int) (r:List Int) (w:World) (hr0:Kd.C (Kd.int .i64) w A0 l0.length l0) (hc0:l0.length≤c0) (h:laws_toInt64S.f k l0=some r) :
  Calls Tryd.prog 15 #[.slice A0 l0.length c0] w fun e w'=>∃ v0_:Value,e = .returned (v0_)∧Kd.R (Kd.int .i64) 2 w' w.heap.size (fun _=>True) v0_ r∧Below w.heap.size w w':=by
 have HR0:=Aside0.mk hr0
 have HC0:=Aside0.mk hc0
 clear hr0 hc0
 have HB:=Aside0.mk (Below.refl w.heap.size w)
 have H:(if 0≤(l0.length:Int) then (if ((l0.length:Int):Int).toNat≤35184372088832 then (laws_toInt64S.l0 k l0 (List.replicate ((l0.length:Int):Int).toNat 0) 0) else (none)) else (none))=some r:=h
 clear h
 by_cases c2:0≤(l0.length:Int)
 ·rw [if_pos c2] at H
  have c2b0:=eq_true c2
  have c2b1:decide (0≤(l0.length:Int))=true:=decide_eq_true c2
  clear c2
  by_cases c3:((l0.length:Int):Int).toNat≤35184372088832
  ·rw [if_pos c3] at H
   have c3b0:=eq_true c3
   have c3b1:decide (((l0.length:Int):Int).toNat≤35184372088832)=true:=decide_eq_true c3
   clear c3
   obtain ⟨y243,hy243⟩:∃ y_:List Int,y_=(List.replicate ((l0.length:Int):Int).toNat 0):=⟨_,rfl⟩
   replace H:(laws_toInt64S.l0 k l0 y243 0)=some r:=by first | (rw [hy243];with_reducible exact H) | (have H2_:=(Option.bind_some _ _).symm.trans H;rw [hy243];with_reducible exact H2_) | (have H2_:=(Option.bind_some _ _).symm.trans H;with_reducible exact H2_) | with_reducible exact H | (rw [hy243];exact H) | exact H
   have Ny243:=Aside0.mk hy243
   clear hy243
   have H':=Aside0.mk H
   clear H
   go_enter Tryd.func15,Tryd.ntmps15
   go_wp2_with (first | ((with_reducible refine gd_ 7 ?_);refine Kd.R_make (Kd.int .i64) _ 2 rfl (N:=7) rfl 26 _ _ rfl (l0.length:Int) rfl rfl Tryd.underlying26 (.int .i64 0) 8 info2 rfl (by decide) (by omega) 0 (ok:=fun _=>True) (okp:=fun _=>True) rfl (fun _ hk=>hk) trivial (of_decide_eq_true (z0_)) (Nat.le_trans (Nat.mul_le_mul_right _ (of_decide_eq_true (z0_):(l0.length:Int).toNat≤35184372088832)) (by omega)) (Below.refl _ _) (Nat.le_refl _) ?_;intro v244 w4 ho5 hb hg_ hnew_;clear hg_ hnew_;(first | rw [← Ny243.out] at ho5 | (simp only [Int.reduceToNat] at ho5;rw [← Ny243.out] at ho5));refine as2_ (Kd.R_lower ho5 (below_size (z6_ HB.out))) (below_step (z6_ HB.out) hb) ?_;clear HB;intro HO245 HB;clear hb ho5))
   go_loopg [4] k (fun kq v4 w'=>∃ (x3_1:List Int) (x4_1:Int),v4 = .int .i64 x4_1∧Aside0 (laws_toInt64S.l0 kq l0 x3_1 x4_1=some r)∧Aside0 (kq≤k)∧Aside0 (Kd.R (Kd.int .i64) 2 w' w.heap.size (fun _=>True) v244 x3_1)∧Aside0 (Below w.heap.size w w'))
   case atStart=>exact ⟨(y243),(0),(z1_),H',⟨Nat.le_refl _⟩,⟨z2_ HO245.out⟩,⟨z6_ HB.out⟩⟩
   case round =>
    clear H'
    try clear c1
    try clear c2
    try clear c2b0
    try clear c2b1
    try clear p2
    try clear c3
    try clear c3b0
    try clear c3b1
    obtain ⟨x3_1,x4_1,rfl,HA,HK1,HO_3,HB⟩:=hrel
    cases gk with
    | zero=>exact absurd HA.out (by simp [laws_toInt64S.l0])
    | succ k1 =>
     have H:=HA.out
     clear HA
     simp only [laws_toInt64S.l0] at H
     by_cases c6:x4_1<(l0.length:Int)
     ·rw [if_pos c6] at H
      have c6b0:decide (x4_1<(l0.length:Int))=true:=decide_eq_true c6
      clear c6
      by_cases c7:0≤x4_1
      ·rw [if_pos c7] at H
       have c7b0:decide (0≤x4_1)=true:=decide_eq_true c7
       clear c7
       by_cases c8:x4_1<(x3_1.length:Int)
       ·rw [if_pos c8] at H
        have c8b0:decide (x4_1<(x3_1.length:Int))=true:=decide_eq_true c8
        clear c8
        obtain ⟨y247,hy247⟩:∃ y_:List Int,y_=(x3_1.set (x4_1:Int).toNat (rd l0 x4_1)):=⟨_,rfl⟩
        replace H:(laws_toInt64S.l0 k1 l0 y247 (wrap64 (x4_1+1)))=some r:=by first | (rw [hy247];with_reducible exact H) | (have H2_:=(Option.bind_some _ _).symm.trans H;rw [hy247];with_reducible exact H2_) | (have H2_:=(Option.bind_some _ _).symm.trans H;with_reducible exact H2_) | with_reducible exact H | (rw [hy247];exact H) | exact H
        have Ny247:=Aside0.mk hy247
        clear hy247
        have H':=Aside0.mk H
        clear H
        have p246:0≤(x4_1:Int):=of_decide_eq_true (z0_)
        have q246:x4_1<(l0.length:Int):=of_decide_eq_true (z0_)
        obtain ⟨ad246,e246,hx246_0⟩:=Kd.at_int HR0.out x4_1 p246 q246
        cases e246
        replace hx246_0:=(HB.out.cell (World.block_lt_of_cell? w _ hx246_0)).trans hx246_0
        replace p246:=eq_true p246
        replace q246:=eq_true q246
        have p9:0≤(x4_1:Int):=of_decide_eq_true (z0_)
        have q9:(x4_1:Int)<((x3_1.length:Int):Int):=of_decide_eq_true (z0_)
        obtain ⟨go9,co9,eo9,gb9,gl9,cl9,HG9⟩:=Kd.R_form HO_3.out (by omega)
        (first | cases eo9 | (injection eo9 with ea_ en_ ec_;(first | subst ea_ | (injection ea_ with ea_;subst ea_));subst ec_;clear en_))
        have GB9:=Aside0.mk gb9
        have GG9:=Aside0.mk HG9
        clear gb9 gl9 HG9
        obtain ⟨hx9_0,hf9_0⟩:=Kd.R_celln 0 HO_3.out (x4_1:Int) p9 q9
        replace p9:=eq_true p9
        replace q9:=eq_true q9
        have HP10:=Kd.R_putg HO_3.out (x4_1:Int) (rd l0 x4_1)
        go_wp2_with (first | ((with_reducible refine gate_store (t:=2) (p:=20) rfl ?_);refine store_event (t:=2) (p:=20) (v:=?vo_w11) (w1:=(wr.setCell ⟨go9,(x4_1:Int).toNat,none⟩ (.int .i64 (rd l0 x4_1)))) ?hg ?ho ?hn ?hr ?_;(case ho=>rfl);(case hg=>rfl);(case hn=>rfl);(case hr=>first | (go_simp;done) | (go_simp;rfl));intro w11 hw;have hg:wr.grownBy w11 (some go9):=(by rw [hw];exact HP10.2);have hp_:Kd.R (Kd.int .i64) 2 w11 w.heap.size (fun _=>True) (.slice (some ⟨go9,0,none⟩) x3_1.length co9) y247:=(by rw [hw,Ny247.out];exact HP10.1);clear HP10;refine as2_ (hp_) ((by rw [hw];exact below_set (HB.out) GB9.out:Below w.heap.size w w11)) ?_;clear HO_3 HB;intro HO_3 HB;clear hg hw hp_))
        go_roundg k1
        case measure=>have:=HK1.out;omega
        case rel=>exact ⟨(y247),(wrap64 (x4_1+1)),(z1_),H',⟨by have:=HK1.out;omega⟩,⟨z2_ HO_3.out⟩,⟨z6_ HB.out⟩⟩
       ·rw [if_neg c8] at H
        exact absurd H (by simp)
      ·rw [if_neg c7] at H
       exact absurd H (by simp)
     ·rw [if_neg c6] at H
      have c6b0:decide (x4_1<(l0.length:Int))=false:=decide_eq_false c6
      clear c6
      obtain rfl:=Option.some.inj H
      go_wp2
      go_ret
      exact ⟨_,z10_,z2_ HO_3.out,z6_ HB.out⟩
  ·rw [if_neg c3] at H
   exact absurd H (by simp)
 ·rw [if_neg c2] at H
  exact absurd H (by simp)


/-! ### impl_within: function 42 -/
def impl_within.f (a0:Int) (a1:Int) (a2:Int):Option (Bool):=if a1≤a0 then (some (decide (a0≤a2))) else (some false)
set_option maxHeartbeats 8000000 in
set_option maxRecDepth 100000 in
theorem impl_within.calls (a0:Int) (a1:Int) (a2:Int) (r:Bool) (w:World) (h:impl_within.f a0 a1 a2=some r) :
  Calls Tryd.prog 42 #[.int .i64 a0,.int .i64 a1,.int .i64 a2] w fun e w'=>e = .returned (.bool r)∧Drawn0 w w':=by
 have H:(if a1≤a0 then (some (decide (a0≤a2))) else (some false))=some r:=h
 clear h
 by_cases c4:a1≤a0
 ·rw [if_pos c4] at H
  have c4b0:decide (a1≤a0)=true:=decide_eq_true c4
  clear c4
  obtain rfl:=Option.some.inj H
  go_enter Tryd.func42,Tryd.ntmps42
  go_wp2
  go_ret
  exact ⟨z1_,z5_⟩
 ·rw [if_neg c4] at H
  have c4b0:decide (a1≤a0)=false:=decide_eq_false c4
  clear c4
  obtain rfl:=Option.some.inj H
  go_enter Tryd.func42,Tryd.ntmps42
  go_wp2
  go_ret
  exact ⟨z1_,z5_⟩


/-! ### impl_isNode: function 26 -/
def impl_isNode.f (a0:Int):Option (Bool):=(impl_within.f a0 1 5).bind fun t248=>(some t248)
set_option maxHeartbeats 8000000 in
set_option maxRecDepth 100000 in
theorem impl_isNode.calls (a0:Int) (r:Bool) (w:World) (h:impl_isNode.f a0=some r) :
  Calls Tryd.prog 26 #[.int .i64 a0] w fun e w'=>e = .returned (.bool r)∧Drawn0 w w':=by
 have H:((impl_within.f a0 1 5).bind fun t248=>(some t248))=some r:=h
 clear h
 replace H:=Option.bind_eq_some_iff.mp H
 obtain ⟨t248,A20,H⟩:=H
 replace H:(some t248)=some r:=H
 have A2:=Aside0.mk A20
 clear A20
 obtain rfl:=Option.some.inj H
 go_enter Tryd.func26,Tryd.ntmps26
 go_wp2_with (first | ((with_reducible refine gc_ 42 ?_);refine gl_ (some 4) Tryd.func42 #[.int .i64 a0,.int .i64 1,.int .i64 5] ?_;(with_reducible refine (impl_within.calls a0 1 5 t248 _ A2.out).mono ?_);rintro e w' ⟨rfl,⟨nd,rfl⟩⟩;refine ⟨_,rfl,?_⟩))
 go_ret
 exact ⟨z1_,z5_⟩


attribute [local go_sem high] eqA59
/-! ### slices_Equal_impl_Token_impl_Token: function 43 -/
def slices_Equal_impl_Token_impl_Token.l0:Nat→List (S59)→List (S59)→Int→Int→Option (Bool)
 | 0,_,_,_,_=>none
 | k+1,x0,x1,x12,x13=>if x13<x12 then (if 0≤x13 then (if x13<(x0.length:Int) then (if x13<(x1.length:Int) then (if (!(((rd_T59 x0 x13).f0) == ((rd_T59 x1 x13).f0)) || (!(((rd_T59 x0 x13).f1) == ((rd_T59 x1 x13).f1))))=true then (some false) else (slices_Equal_impl_Token_impl_Token.l0 k x0 x1 x12 (wrap64 (x13+1)))) else (none)) else (none)) else (none)) else (some true)
def slices_Equal_impl_Token_impl_Token.f (k:Nat) (l0:List (S59)) (l1:List (S59)):Option (Bool):=if (l0.length:Int)=(l1.length:Int) then (slices_Equal_impl_Token_impl_Token.l0 k l0 l1 (l0.length:Int) 0) else (some false)
theorem slices_Equal_impl_Token_impl_Token.mono_l:∀ k,(∀ y0 y1 y2 y3,LeO (slices_Equal_impl_Token_impl_Token.l0 k y0 y1 y2 y3) (slices_Equal_impl_Token_impl_Token.l0 (k+1) y0 y1 y2 y3))
 | 0=>fun _ _ _ _ r h=>by simp [slices_Equal_impl_Token_impl_Token.l0] at h
 | k+1=>by
  have ih0:=slices_Equal_impl_Token_impl_Token.mono_l k
  ·intro y0 y1 y2 y3
   unfold slices_Equal_impl_Token_impl_Token.l0
   repeat' first
   | (with_reducible exact ih0 _ _ _ _)
   | (with_reducible exact LeO.refl _)
   | (with_reducible exact LeO.none _)
   | (with_reducible refine LeO.ite ?_ ?_)
   | (with_reducible refine LeO.bind ?_ (fun _=>?_))
   | exact ih0 _ _ _ _
   | exact LeO.none _
   | refine LeO.ite ?_ ?_
   | refine LeO.bind ?_ (fun _=>?_)
theorem slices_Equal_impl_Token_impl_Token.mono:∀ a0 a1 k,LeO (slices_Equal_impl_Token_impl_Token.f k a0 a1) (slices_Equal_impl_Token_impl_Token.f (k+1) a0 a1):=by
 intro a0 a1 k
 have ih0:=slices_Equal_impl_Token_impl_Token.mono_l k
 unfold slices_Equal_impl_Token_impl_Token.f
 repeat' first
   | (with_reducible exact ih0 _ _ _ _)
   | (with_reducible exact LeO.refl _)
   | (with_reducible exact LeO.none _)
   | (with_reducible refine LeO.ite ?_ ?_)
   | (with_reducible refine LeO.bind ?_ (fun _=>?_))
   | exact ih0 _ _ _ _
   | exact LeO.none _
   | refine LeO.ite ?_ ?_
   | refine LeO.bind ?_ (fun _=>?_)
set_option maxHeartbeats 8000000 in
set_option maxRecDepth 100000 in
theorem slices_Equal_impl_Token_impl_Token.calls (k:Nat) (A0:Option Addr) (c0:Nat) (l0:List (S59)) (A1:Option Addr) (c1:Nat) (l1:List (S59)) (r:Bool) (w:World) (hr0:Kd.C k59 w A0 l0.length l0) (hc0:l0.length≤c0) (hr1:Kd.C k59 w A1 l1.length l1) (hc1:l1.length≤c1) (h:slices_Equal_impl_Token_impl_Token.f k l0 l1=some r) :
  Calls Tryd.prog 43 #[.slice A0 l0.length c0,.slice A1 l1.length c1] w fun e w'=>e = .returned (.bool r)∧Drawn0 w w':=by
 have hu59:=Tryd.underlying59
 have HR0:=Aside0.mk hr0
 have HC0:=Aside0.mk hc0
 clear hr0 hc0
 have HR1:=Aside0.mk hr1
 have HC1:=Aside0.mk hc1
 clear hr1 hc1
 have H:(if (l0.length:Int)=(l1.length:Int) then (slices_Equal_impl_Token_impl_Token.l0 k l0 l1 (l0.length:Int) 0) else (some false))=some r:=h
 clear h
 by_cases c3:(l0.length:Int)=(l1.length:Int)
 ·rw [if_pos c3] at H
  have c3b0:((l0.length:Int) == (l1.length:Int))=true:=beq_iff_eq.mpr c3
  have c3b1:((l0.length:Int) != (l1.length:Int))=false:=bne_eq_false_iff_eq.mpr c3
  have c3b2:(l0.length == l1.length)=true:=by first | simpa using c3 | (simp at c3 ⊢;omega)
  clear c3
  have H':=Aside0.mk H
  clear H
  go_enter Tryd.func43,Tryd.ntmps43
  go_wp2
  repeat (go_quiet (fail);try go_wp2)
  go_loopg [13] k (fun kq v13 w'=>∃ (x13_1:Int),v13 = .int .i64 x13_1∧Aside0 (slices_Equal_impl_Token_impl_Token.l0 kq l0 l1 (l0.length:Int) x13_1=some r)∧Aside0 (kq≤k)∧Drawn0 w w')
  case atStart=>exact ⟨(0),(z1_),H',⟨Nat.le_refl _⟩,z5_⟩
  case round =>
   clear H'
   try clear c1
   try clear p2
   try clear c3
   try clear c3b0
   try clear c3b1
   try clear c3b2
   obtain ⟨x13_1,rfl,HA,HK1,⟨m1,rfl⟩⟩:=hrel
   cases gk with
   | zero=>exact absurd HA.out (by simp [slices_Equal_impl_Token_impl_Token.l0])
   | succ k1 =>
    have H:=HA.out
    clear HA
    simp only [slices_Equal_impl_Token_impl_Token.l0] at H
    by_cases c4:x13_1<(l0.length:Int)
    ·rw [if_pos c4] at H
     have c4b0:decide (x13_1<(l0.length:Int))=true:=decide_eq_true c4
     clear c4
     by_cases c5:0≤x13_1
     ·rw [if_pos c5] at H
      have c5b0:decide (0≤x13_1)=true:=decide_eq_true c5
      clear c5
      by_cases c6:x13_1<(l0.length:Int)
      ·rw [if_pos c6] at H
       have c6b0:decide (x13_1<(l0.length:Int))=true:=decide_eq_true c6
       clear c6
       by_cases c7:x13_1<(l1.length:Int)
       ·rw [if_pos c7] at H
        have c7b0:decide (x13_1<(l1.length:Int))=true:=decide_eq_true c7
        clear c7
        by_cases c8:(!(((rd_T59 l0 x13_1).f0) == ((rd_T59 l1 x13_1).f0)) || (!(((rd_T59 l0 x13_1).f1) == ((rd_T59 l1 x13_1).f1))))=true
        ·rw [if_pos c8] at H
         have c8b0:(!(((rd_T59 l0 x13_1).f0) == ((rd_T59 l1 x13_1).f0)) || (!(((rd_T59 l0 x13_1).f1) == ((rd_T59 l1 x13_1).f1))))=true:=c8
         clear c8
         obtain rfl:=Option.some.inj H
         have p249:0≤(x13_1:Int):=of_decide_eq_true (z0_)
         have q249:x13_1<(l0.length:Int):=of_decide_eq_true (z0_)
         obtain ⟨ad249,e249,hx249_0,hx249_1⟩:=at_T59 HR0.out x13_1 p249 q249
         cases e249
         replace p249:=eq_true p249
         replace q249:=eq_true q249
         have p250:0≤(x13_1:Int):=of_decide_eq_true (z0_)
         have q250:x13_1<(l1.length:Int):=of_decide_eq_true (z0_)
         obtain ⟨ad250,e250,hx250_0,hx250_1⟩:=at_T59 HR1.out x13_1 p250 q250
         cases e250
         replace p250:=eq_true p250
         replace q250:=eq_true q250
         go_wp2
         repeat (go_quiet (fail);try go_wp2)
         go_ret
         exact ⟨z1_,z5_⟩
        ·rw [if_neg c8] at H
         have c8b0:(!(((rd_T59 l0 x13_1).f0) == ((rd_T59 l1 x13_1).f0)) || (!(((rd_T59 l0 x13_1).f1) == ((rd_T59 l1 x13_1).f1))))=false:=by simpa using c8
         clear c8
         have H':=Aside0.mk H
         clear H
         have p249:0≤(x13_1:Int):=of_decide_eq_true (z0_)
         have q249:x13_1<(l0.length:Int):=of_decide_eq_true (z0_)
         obtain ⟨ad249,e249,hx249_0,hx249_1⟩:=at_T59 HR0.out x13_1 p249 q249
         cases e249
         replace p249:=eq_true p249
         replace q249:=eq_true q249
         have p250:0≤(x13_1:Int):=of_decide_eq_true (z0_)
         have q250:x13_1<(l1.length:Int):=of_decide_eq_true (z0_)
         obtain ⟨ad250,e250,hx250_0,hx250_1⟩:=at_T59 HR1.out x13_1 p250 q250
         cases e250
         replace p250:=eq_true p250
         replace q250:=eq_true q250
         go_wp2
         repeat (go_quiet (fail);try go_wp2)
         go_roundg k1
         case measure=>have:=HK1.out;omega
         case rel=>exact ⟨(wrap64 (x13_1+1)),(z1_),H',⟨by have:=HK1.out;omega⟩,z5_⟩
       ·rw [if_neg c7] at H
        exact absurd H (by simp)
      ·rw [if_neg c6] at H
       exact absurd H (by simp)
     ·rw [if_neg c5] at H
      exact absurd H (by simp)
    ·rw [if_neg c4] at H
     have c4b0:decide (x13_1<(l0.length:Int))=false:=decide_eq_false c4
     clear c4
     obtain rfl:=Option.some.inj H
     go_wp2
     repeat (go_quiet (fail);try go_wp2)
     go_ret
     exact ⟨z1_,z5_⟩
 ·rw [if_neg c3] at H
  have c3b0:((l0.length:Int) == (l1.length:Int))=false:=beq_eq_false_iff_ne.mpr c3
  have c3b1:((l0.length:Int) != (l1.length:Int))=true:=bne_iff_ne.mpr c3
  have c3b2:(l0.length == l1.length)=false:=by first | simpa using c3 | (simp at c3 ⊢;omega)
  obtain rfl:=Option.some.inj H
  go_enter Tryd.func43,Tryd.ntmps43
  go_wp2
  repeat (go_quiet (fail);try go_wp2)
  go_ret
  exact ⟨z1_,z5_⟩


/-! ### impl_fnv: function 58 -/
def impl_fnv.l0:Nat→ByteArray→Int→Int→Int→Option (Int)
 | 0,_,_,_,_=>none
 | k+1,x0,x3,x6,x7=>if x7<x6 then (if 0≤x7 then (if x7<(x0.size:Int) then (impl_fnv.l0 k x0 (((Go.bits .xor .u32 x3 ((bt x0 x7) % 4294967296))*16777619) % 4294967296) x6 (wrap64 (x7+1))) else (none)) else (none)) else (some (wrap64 (x3)))
def impl_fnv.f (k:Nat) (a0:ByteArray):Option (Int):=impl_fnv.l0 k a0 2166136261 (a0.size:Int) 0
theorem impl_fnv.mono_l:∀ k,(∀ y0 y1 y2 y3,LeO (impl_fnv.l0 k y0 y1 y2 y3) (impl_fnv.l0 (k+1) y0 y1 y2 y3))
 | 0=>fun _ _ _ _ r h=>by simp [impl_fnv.l0] at h
 | k+1=>by
  have ih0:=impl_fnv.mono_l k
  ·intro y0 y1 y2 y3
   unfold impl_fnv.l0
   repeat' first
   | (with_reducible exact ih0 _ _ _ _)
   | (with_reducible exact LeO.refl _)
   | (with_reducible exact LeO.none _)
   | (with_reducible refine LeO.ite ?_ ?_)
   | (with_reducible refine LeO.bind ?_ (fun _=>?_))
   | exact ih0 _ _ _ _
   | exact LeO.none _
   | refine LeO.ite ?_ ?_
   | refine LeO.bind ?_ (fun _=>?_)
theorem impl_fnv.mono:∀ a0 k,LeO (impl_fnv.f k a0) (impl_fnv.f (k+1) a0):=by
 intro a0 k
 have ih0:=impl_fnv.mono_l k
 unfold impl_fnv.f
 repeat' first
   | (with_reducible exact ih0 _ _ _ _)
   | (with_reducible exact LeO.refl _)
   | (with_reducible exact LeO.none _)
   | (with_reducible refine LeO.ite ?_ ?_)
   | (with_reducible refine LeO.bind ?_ (fun _=>?_))
   | exact ih0 _ _ _ _
   | exact LeO.none _
   | refine LeO.ite ?_ ?_
   | refine LeO.bind ?_ (fun _=>?_)
set_option maxHeartbeats 8000000 in
set_option maxRecDepth 100000 in
theorem impl_fnv.calls (k:Nat) (a0:ByteArray) (r:Int) (w:World) (h:impl_fnv.f k a0=some r) :
  Calls Tryd.prog 58 #[.string a0] w fun e w'=>e = .returned (.int .i64 r)∧Drawn0 w w':=by
 have H:(impl_fnv.l0 k a0 2166136261 (a0.size:Int) 0)=some r:=h
 clear h
 have H':=Aside0.mk H
 clear H
 go_enter Tryd.func58,Tryd.ntmps58
 go_wp2
 go_loopg [3,7] k (fun kq v3 v7 w'=>∃ (x3_1:Int) (x7_1:Int),v3 = .int .u32 x3_1∧v7 = .int .i64 x7_1∧Aside0 (impl_fnv.l0 kq a0 x3_1 (a0.size:Int) x7_1=some r)∧Aside0 (kq≤k)∧Drawn0 w w')
 case atStart=>exact ⟨(2166136261),(0),(z1_),(z1_),H',⟨Nat.le_refl _⟩,z5_⟩
 case round =>
  clear H'
  obtain ⟨x3_1,x7_1,rfl,rfl,HA,HK1,⟨m1,rfl⟩⟩:=hrel
  cases gk with
  | zero=>exact absurd HA.out (by simp [impl_fnv.l0])
  | succ k1 =>
   have H:=HA.out
   clear HA
   simp only [impl_fnv.l0] at H
   by_cases c2:x7_1<(a0.size:Int)
   ·rw [if_pos c2] at H
    have c2b0:decide (x7_1<(a0.size:Int))=true:=decide_eq_true c2
    clear c2
    by_cases c3:0≤x7_1
    ·rw [if_pos c3] at H
     have c3b0:decide (0≤x7_1)=true:=decide_eq_true c3
     clear c3
     by_cases c4:x7_1<(a0.size:Int)
     ·rw [if_pos c4] at H
      have c4b0:decide (x7_1<(a0.size:Int))=true:=decide_eq_true c4
      clear c4
      have H':=Aside0.mk H
      clear H
      have p5:0≤(x7_1:Int):=of_decide_eq_true (z0_)
      have q5:x7_1<(a0.size:Int):=of_decide_eq_true (z0_)
      have hx5:=bt_at a0 x7_1
      replace p5:=eq_true p5
      replace q5:=eq_true q5
      go_wp2
      go_roundg k1
      case measure=>have:=HK1.out;omega
      case rel=>exact ⟨(((Go.bits .xor .u32 x3_1 ((bt a0 x7_1) % 4294967296))*16777619) % 4294967296),(wrap64 (x7_1+1)),(z1_),(z1_),H',⟨by have:=HK1.out;omega⟩,z5_⟩
     ·rw [if_neg c4] at H
      exact absurd H (by simp)
    ·rw [if_neg c3] at H
     exact absurd H (by simp)
   ·rw [if_neg c2] at H
    have c2b0:decide (x7_1<(a0.size:Int))=false:=decide_eq_false c2
    clear c2
    obtain rfl:=Option.some.inj H
    go_wp2
    go_ret
    exact ⟨z1_,z5_⟩


/-! ### strconv_small: function 84 -/
def strconv_small.f (a0:Int):Option (ByteArray):=if a0<10 then (if 0≤a0 then (if a0≤(wrap64 (a0+1)) then (if (wrap64 (a0+1))≤36 then (some ((⟨#[48,49,50,51,52,53,54,55,56,57,97,98,99,100,101,102,103,104,105,106,107,108,109,110,111,112,113,114,115,116,117,118,119,120,121,122]⟩:ByteArray).extract (a0:Int).toNat ((wrap64 (a0+1)):Int).toNat)) else (none)) else (none)) else (none)) else (if 0≤(wrap64 (a0*2)) then (if (wrap64 (a0*2))≤(wrap64 ((wrap64 (a0*2))+2)) then (if (wrap64 ((wrap64 (a0*2))+2))≤200 then (some ((⟨#[48,48,48,49,48,50,48,51,48,52,48,53,48,54,48,55,48,56,48,57,49,48,49,49,49,50,49,51,49,52,49,53,49,54,49,55,49,56,49,57,50,48,50,49,50,50,50,51,50,52,50,53,50,54,50,55,50,56,50,57,51,48,51,49,51,50,51,51,51,52,51,53,51,54,51,55,51,56,51,57,52,48,52,49,52,50,52,51,52,52,52,53,52,54,52,55,52,56,52,57,53,48,53,49,53,50,53,51,53,52,53,53,53,54,53,55,53,56,53,57,54,48,54,49,54,50,54,51,54,52,54,53,54,54,54,55,54,56,54,57,55,48,55,49,55,50,55,51,55,52,55,53,55,54,55,55,55,56,55,57,56,48,56,49,56,50,56,51,56,52,56,53,56,54,56,55,56,56,56,57,57,48,57,49,57,50,57,51,57,52,57,53,57,54,57,55,57,56,57,57]⟩:ByteArray).extract ((wrap64 (a0*2)):Int).toNat ((wrap64 ((wrap64 (a0*2))+2)):Int).toNat)) else (none)) else (none)) else (none))
set_option maxHeartbeats 8000000 in
set_option maxRecDepth 100000 in
theorem strconv_small.calls (a0:Int) (r:ByteArray) (w:World) (h:strconv_small.f a0=some r) :
  Calls Tryd.prog 84 #[.int .i64 a0] w fun e w'=>e = .returned (.string r)∧Drawn0 w w':=by
 have H:(if a0<10 then (if 0≤a0 then (if a0≤(wrap64 (a0+1)) then (if (wrap64 (a0+1))≤36 then (some ((⟨#[48,49,50,51,52,53,54,55,56,57,97,98,99,100,101,102,103,104,105,106,107,108,109,110,111,112,113,114,115,116,117,118,119,120,121,122]⟩:ByteArray).extract (a0:Int).toNat ((wrap64 (a0+1)):Int).toNat)) else (none)) else (none)) else (none)) else (if 0≤(wrap64 (a0*2)) then (if (wrap64 (a0*2))≤(wrap64 ((wrap64 (a0*2))+2)) then (if (wrap64 ((wrap64 (a0*2))+2))≤200 then (some ((⟨#[48,48,48,49,48,50,48,51,48,52,48,53,48,54,48,55,48,56,48,57,49,48,49,49,49,50,49,51,49,52,49,53,49,54,49,55,49,56,49,57,50,48,50,49,50,50,50,51,50,52,50,53,50,54,50,55,50,56,50,57,51,48,51,49,51,50,51,51,51,52,51,53,51,54,51,55,51,56,51,57,52,48,52,49,52,50,52,51,52,52,52,53,52,54,52,55,52,56,52,57,53,48,53,49,53,50,53,51,53,52,53,53,53,54,53,55,53,56,53,57,54,48,54,49,54,50,54,51,54,52,54,53,54,54,54,55,54,56,54,57,55,48,55,49,55,50,55,51,55,52,55,53,55,54,55,55,55,56,55,57,56,48,56,49,56,50,56,51,56,52,56,53,56,54,56,55,56,56,56,57,57,48,57,49,57,50,57,51,57,52,57,53,57,54,57,55,57,56,57,57]⟩:ByteArray).extract ((wrap64 (a0*2)):Int).toNat ((wrap64 ((wrap64 (a0*2))+2)):Int).toNat)) else (none)) else (none)) else (none)))=some r:=h
 clear h
 by_cases c2:a0<10
 ·rw [if_pos c2] at H
  have c2b0:decide (a0<10)=true:=decide_eq_true c2
  clear c2
  by_cases c3:0≤a0
  ·rw [if_pos c3] at H
   have c3b0:=eq_true c3
   have c3b1:decide (0≤a0)=true:=decide_eq_true c3
   clear c3
   by_cases c4:a0≤(wrap64 (a0+1))
   ·rw [if_pos c4] at H
    have c4b0:=eq_true c4
    have c4b1:decide (a0≤(wrap64 (a0+1)))=true:=decide_eq_true c4
    by_cases c5:(wrap64 (a0+1))≤36
    ·rw [if_pos c5] at H
     have c5b0:=eq_true c5
     have c5b1:decide ((wrap64 (a0+1))≤36)=true:=decide_eq_true c5
     obtain rfl:=Option.some.inj H
     go_enter Tryd.func84,Tryd.ntmps84
     go_wp2
     go_ret
     exact ⟨z1_,z5_⟩
    ·rw [if_neg c5] at H
     exact absurd H (by simp)
   ·rw [if_neg c4] at H
    exact absurd H (by simp)
  ·rw [if_neg c3] at H
   exact absurd H (by simp)
 ·rw [if_neg c2] at H
  have c2b0:decide (a0<10)=false:=decide_eq_false c2
  clear c2
  obtain ⟨ji6,hji6⟩:∃ j_:Int,(wrap64 (a0*2))=j_:=⟨_,rfl⟩
  replace H:(if 0≤(ji6) then (if (ji6)≤(wrap64 ((ji6)+2)) then (if (wrap64 ((ji6)+2))≤200 then (some ((⟨#[48,48,48,49,48,50,48,51,48,52,48,53,48,54,48,55,48,56,48,57,49,48,49,49,49,50,49,51,49,52,49,53,49,54,49,55,49,56,49,57,50,48,50,49,50,50,50,51,50,52,50,53,50,54,50,55,50,56,50,57,51,48,51,49,51,50,51,51,51,52,51,53,51,54,51,55,51,56,51,57,52,48,52,49,52,50,52,51,52,52,52,53,52,54,52,55,52,56,52,57,53,48,53,49,53,50,53,51,53,52,53,53,53,54,53,55,53,56,53,57,54,48,54,49,54,50,54,51,54,52,54,53,54,54,54,55,54,56,54,57,55,48,55,49,55,50,55,51,55,52,55,53,55,54,55,55,55,56,55,57,56,48,56,49,56,50,56,51,56,52,56,53,56,54,56,55,56,56,56,57,57,48,57,49,57,50,57,51,57,52,57,53,57,54,57,55,57,56,57,57]⟩:ByteArray).extract ((ji6):Int).toNat ((wrap64 ((ji6)+2)):Int).toNat)) else (none)) else (none)) else (none))=some r:=by first | (rw [hji6] at H;exact H) | (simp only [hji6] at H ⊢;exact H)
  have hji6w:(IntKind.i64.wrap (a0*2))=ji6:=(i64_w _).trans hji6
  by_cases c7:0≤(ji6)
  ·rw [if_pos c7] at H
   have c7b0:=eq_true c7
   have c7b1:decide (0≤(ji6))=true:=decide_eq_true c7
   clear c7
   by_cases c8:(ji6)≤(wrap64 ((ji6)+2))
   ·rw [if_pos c8] at H
    have c8b0:=eq_true c8
    have c8b1:decide ((ji6)≤(wrap64 ((ji6)+2)))=true:=decide_eq_true c8
    by_cases c9:(wrap64 ((ji6)+2))≤200
    ·rw [if_pos c9] at H
     have c9b0:=eq_true c9
     have c9b1:decide ((wrap64 ((ji6)+2))≤200)=true:=decide_eq_true c9
     obtain rfl:=Option.some.inj H
     go_enter Tryd.func84,Tryd.ntmps84
     go_wp2
     go_ret
     exact ⟨by first | rfl | (simp;done) | (simp only [← hji6] <;> (first | rfl | simp)) | (simp [*];done),z5_⟩
    ·rw [if_neg c9] at H
     exact absurd H (by simp)
   ·rw [if_neg c8] at H
    exact absurd H (by simp)
  ·rw [if_neg c7] at H
   exact absurd H (by simp)


/-! ### strconv_FormatInt_73: function 73 -/
def strconv_FormatInt_73.j0:Nat→Int→Bool→Option (ByteArray)
 | 0,_,_=>none
 | k+1,x0,x17=>if x17=true then ((strconv_small.f x0).bind fun t251=>(some t251)) else (none)
def strconv_FormatInt_73.f (k:Nat) (a0:Int) (a1:Int):Option (ByteArray):=if a1=10 then (if 0≤a0 then (strconv_FormatInt_73.j0 k a0 (decide (a0<100))) else (strconv_FormatInt_73.j0 k a0 false)) else (none)
theorem strconv_FormatInt_73.mono_l:∀ k,(∀ y0 y1,LeO (strconv_FormatInt_73.j0 k y0 y1) (strconv_FormatInt_73.j0 (k+1) y0 y1))
 | 0=>fun _ _ r h=>by simp [strconv_FormatInt_73.j0] at h
 | k+1=>by
  have ih0:=strconv_FormatInt_73.mono_l k
  ·intro y0 y1
   unfold strconv_FormatInt_73.j0
   repeat' first
   | (with_reducible exact ih0 _ _)
   | (with_reducible exact LeO.refl _)
   | (with_reducible exact LeO.none _)
   | (with_reducible refine LeO.ite ?_ ?_)
   | (with_reducible refine LeO.bind ?_ (fun _=>?_))
   | exact ih0 _ _
   | exact LeO.none _
   | refine LeO.ite ?_ ?_
   | refine LeO.bind ?_ (fun _=>?_)
theorem strconv_FormatInt_73.mono:∀ a0 a1 k,LeO (strconv_FormatInt_73.f k a0 a1) (strconv_FormatInt_73.f (k+1) a0 a1):=by
 intro a0 a1 k
 have ih0:=strconv_FormatInt_73.mono_l k
 unfold strconv_FormatInt_73.f
 repeat' first
   | (with_reducible exact ih0 _ _)
   | (with_reducible exact LeO.refl _)
   | (with_reducible exact LeO.none _)
   | (with_reducible refine LeO.ite ?_ ?_)
   | (with_reducible refine LeO.bind ?_ (fun _=>?_))
   | exact ih0 _ _
   | exact LeO.none _
   | refine LeO.ite ?_ ?_
   | refine LeO.bind ?_ (fun _=>?_)
set_option maxHeartbeats 8000000 in
set_option maxRecDepth 100000 in
theorem strconv_FormatInt_73.calls (k:Nat) (a0:Int) (a1:Int) (r:ByteArray) (w:World) (h:strconv_FormatInt_73.f k a0 a1=some r) :
  Calls Tryd.prog 73 #[.int .i64 a0,.int .i64 a1] w fun e w'=>e = .returned (.string r)∧Drawn0 w w':=by
 have H:(if a1=10 then (if 0≤a0 then (strconv_FormatInt_73.j0 k a0 (decide (a0<100))) else (strconv_FormatInt_73.j0 k a0 false)) else (none))=some r:=h
 clear h
 by_cases c3:a1=10
 ·rw [if_pos c3] at H
  have c3b0:(a1 == 10)=true:=beq_iff_eq.mpr c3
  have c3b1:(a1 != 10)=false:=bne_eq_false_iff_eq.mpr c3
  clear c3
  have HC4:=Aside0.mk H
  clear H
  go_enter Tryd.func73,Tryd.ntmps73
  go_upto_region 2 with (fail)
  go_cut [17] (fun v17 wc=>∃ (kq:Nat) (x17_3:Bool),v17 = .bool x17_3∧Aside0 (strconv_FormatInt_73.j0 kq a0 x17_3=some r)∧Aside0 (kq≤k)∧Drawn0 w wc)
  case first =>
   have H:=HC4.out
   clear HC4
   by_cases c5:0≤a0
   ·rw [if_pos c5] at H
    have c5b0:decide (0≤a0)=true:=decide_eq_true c5
    clear c5
    (first | rw [c5b0] | (simp only [i64_w,i32_w];rw [c5b0]) | skip)
    have H':=Aside0.mk H
    clear H
    go_wp2
    go_meet
    case rel=>exact ⟨_,(decide (a0<100)),(z1_),H',⟨by first | omega | exact Nat.le_refl _⟩,z5_⟩
   ·rw [if_neg c5] at H
    have c5b0:decide (0≤a0)=false:=decide_eq_false c5
    clear c5
    (first | rw [c5b0] | (simp only [i64_w,i32_w];rw [c5b0]) | skip)
    have H':=Aside0.mk H
    clear H
    go_wp2
    go_meet
    case rel=>exact ⟨_,(false),(z1_),H',⟨by first | omega | exact Nat.le_refl _⟩,z5_⟩
  case rest =>
   clear HC4
   try clear p2
   try clear c3
   try clear c3b0
   try clear c3b1
   try clear c5
   try clear c5b0
   obtain ⟨kq,x17_3,rfl,HA,HJ3,⟨mc3,rfl⟩⟩:=hcut
   cases kq with
   | zero=>exact absurd HA.out (by simp [strconv_FormatInt_73.j0])
   | succ kj3 =>
    have H:=HA.out
    clear HA
    simp only [strconv_FormatInt_73.j0] at H
    by_cases c6:x17_3=true
    ·subst c6
     have H1:((strconv_small.f a0).bind fun t251=>(some t251))=some r:=by rw [if_pos rfl] at H;exact H
     clear H
     have H:=H1
     clear H1
     replace H:=Option.bind_eq_some_iff.mp H
     obtain ⟨t251,A70,H⟩:=H
     replace H:(some t251)=some r:=H
     have A7:=Aside0.mk A70
     clear A70
     obtain rfl:=Option.some.inj H
     go_wp2_with (first | ((with_reducible refine gc_ 84 ?_);refine gl_ (some 19) Tryd.func84 #[.int .i64 a0] ?_;(with_reducible refine (strconv_small.calls a0 t251 _ A7.out).mono ?_);rintro e w' ⟨rfl,⟨nd,rfl⟩⟩;refine ⟨_,rfl,?_⟩))
     go_ret
     exact ⟨z1_,z5_⟩
    ·replace c6:=Bool.eq_false_iff.mpr c6
     subst c6
     have H1:(none)=some r:=by rw [if_neg (show ¬ (false=true) by decide)] at H;exact H
     clear H
     have H:=H1
     clear H1
     exact absurd H (by simp)
 ·rw [if_neg c3] at H
  exact absurd H (by simp)


/-! ### strconv_FormatInt_69: function 69 -/
def strconv_FormatInt_69.f (k:Nat) (a0:Int) (a1:Int):Option (ByteArray):=(strconv_FormatInt_73.f k a0 a1).bind fun t252=>(some t252)
theorem strconv_FormatInt_69.mono:∀ a0 a1 k,LeO (strconv_FormatInt_69.f k a0 a1) (strconv_FormatInt_69.f (k+1) a0 a1):=by
 intro a0 a1 k
 unfold strconv_FormatInt_69.f
 repeat' first
   | (with_reducible exact strconv_FormatInt_73.mono _ _ _)
   | (with_reducible exact LeO.refl _)
   | (with_reducible exact LeO.none _)
   | (with_reducible refine LeO.ite ?_ ?_)
   | (with_reducible refine LeO.bind ?_ (fun _=>?_))
   | exact strconv_FormatInt_73.mono _ _ _
   | exact LeO.none _
   | refine LeO.ite ?_ ?_
   | refine LeO.bind ?_ (fun _=>?_)
set_option maxHeartbeats 8000000 in
set_option maxRecDepth 100000 in
theorem strconv_FormatInt_69.calls (k:Nat) (a0:Int) (a1:Int) (r:ByteArray) (w:World) (h:strconv_FormatInt_69.f k a0 a1=some r) :
  Calls Tryd.prog 69 #[.int .i64 a0,.int .i64 a1] w fun e w'=>e = .returned (.string r)∧Drawn0 w w':=by
 have H:((strconv_FormatInt_73.f k a0 a1).bind fun t252=>(some t252))=some r:=h
 clear h
 replace H:=Option.bind_eq_some_iff.mp H
 obtain ⟨t252,A30,H⟩:=H
 replace H:(some t252)=some r:=H
 have A3:=Aside0.mk A30
 clear A30
 obtain rfl:=Option.some.inj H
 go_enter Tryd.func69,Tryd.ntmps69
 go_wp2_with (first | ((with_reducible refine gc_ 73 ?_);refine gl_ (some 7) Tryd.func73 #[.int .i64 a0,.int .i64 a1] ?_;(with_reducible refine (strconv_FormatInt_73.calls k a0 a1 t252 _ A3.out).mono ?_);rintro e w' ⟨rfl,⟨nd,rfl⟩⟩;refine ⟨_,rfl,?_⟩))
 go_ret
 exact ⟨z1_,z5_⟩


/-! ### impl_decimal: function 59 -/
def impl_decimal.f (k:Nat) (a0:Int):Option (ByteArray):=(strconv_FormatInt_69.f k a0 10).bind fun t253=>(some t253)
theorem impl_decimal.mono:∀ a0 k,LeO (impl_decimal.f k a0) (impl_decimal.f (k+1) a0):=by
 intro a0 k
 unfold impl_decimal.f
 repeat' first
   | (with_reducible exact strconv_FormatInt_69.mono _ _ _)
   | (with_reducible exact LeO.refl _)
   | (with_reducible exact LeO.none _)
   | (with_reducible refine LeO.ite ?_ ?_)
   | (with_reducible refine LeO.bind ?_ (fun _=>?_))
   | exact strconv_FormatInt_69.mono _ _ _
   | exact LeO.none _
   | refine LeO.ite ?_ ?_
   | refine LeO.bind ?_ (fun _=>?_)
set_option maxHeartbeats 8000000 in
set_option maxRecDepth 100000 in
theorem impl_decimal.calls (k:Nat) (a0:Int) (r:ByteArray) (w:World) (h:impl_decimal.f k a0=some r) :
  Calls Tryd.prog 59 #[.int .i64 a0] w fun e w'=>e = .returned (.string r)∧Drawn0 w w':=by
 have H:((strconv_FormatInt_69.f k a0 10).bind fun t253=>(some t253))=some r:=h
 clear h
 replace H:=Option.bind_eq_some_iff.mp H
 obtain ⟨t253,A20,H⟩:=H
 replace H:(some t253)=some r:=H
 have A2:=Aside0.mk A20
 clear A20
 obtain rfl:=Option.some.inj H
 go_enter Tryd.func59,Tryd.ntmps59
 go_wp2_with (first | ((with_reducible refine gc_ 69 ?_);refine gl_ (some 4) Tryd.func69 #[.int .i64 a0,.int .i64 10] ?_;(with_reducible refine (strconv_FormatInt_69.calls k a0 10 t253 _ A2.out).mono ?_);rintro e w' ⟨rfl,⟨nd,rfl⟩⟩;refine ⟨_,rfl,?_⟩))
 go_ret
 exact ⟨z1_,z5_⟩


/-! ### bits_Len64: function 83 -/
mutual
def bits_Len64.j0:Nat→Int→Int→Option (Int)
 | 0,_,_=>none
 | k+1,x0,x2=>if x0≥65536 then (bits_Len64.j1 k (x0 / 65536) (wrap64 (x2+16))) else (bits_Len64.j1 k x0 x2)
def bits_Len64.j1:Nat→Int→Int→Option (Int)
 | 0,_,_=>none
 | k+1,x0,x2=>if x0≥256 then (if 0≤((x0 / 256) % 256) then (if ((x0 / 256) % 256)<256 then (some (wrap64 ((wrap64 (x2+8))+(wrap64 (bt (⟨#[0,1,2,2,3,3,3,3,4,4,4,4,4,4,4,4,5,5,5,5,5,5,5,5,5,5,5,5,5,5,5,5,6,6,6,6,6,6,6,6,6,6,6,6,6,6,6,6,6,6,6,6,6,6,6,6,6,6,6,6,6,6,6,6,7,7,7,7,7,7,7,7,7,7,7,7,7,7,7,7,7,7,7,7,7,7,7,7,7,7,7,7,7,7,7,7,7,7,7,7,7,7,7,7,7,7,7,7,7,7,7,7,7,7,7,7,7,7,7,7,7,7,7,7,7,7,7,7,8,8,8,8,8,8,8,8,8,8,8,8,8,8,8,8,8,8,8,8,8,8,8,8,8,8,8,8,8,8,8,8,8,8,8,8,8,8,8,8,8,8,8,8,8,8,8,8,8,8,8,8,8,8,8,8,8,8,8,8,8,8,8,8,8,8,8,8,8,8,8,8,8,8,8,8,8,8,8,8,8,8,8,8,8,8,8,8,8,8,8,8,8,8,8,8,8,8,8,8,8,8,8,8,8,8,8,8,8,8,8,8,8,8,8,8,8,8,8,8,8,8,8,8,8,8,8,8]⟩:ByteArray) ((x0 / 256) % 256)))))) else (none)) else (none)) else (if 0≤((x0) % 256) then (if ((x0) % 256)<256 then (some (wrap64 (x2+(wrap64 (bt (⟨#[0,1,2,2,3,3,3,3,4,4,4,4,4,4,4,4,5,5,5,5,5,5,5,5,5,5,5,5,5,5,5,5,6,6,6,6,6,6,6,6,6,6,6,6,6,6,6,6,6,6,6,6,6,6,6,6,6,6,6,6,6,6,6,6,7,7,7,7,7,7,7,7,7,7,7,7,7,7,7,7,7,7,7,7,7,7,7,7,7,7,7,7,7,7,7,7,7,7,7,7,7,7,7,7,7,7,7,7,7,7,7,7,7,7,7,7,7,7,7,7,7,7,7,7,7,7,7,7,8,8,8,8,8,8,8,8,8,8,8,8,8,8,8,8,8,8,8,8,8,8,8,8,8,8,8,8,8,8,8,8,8,8,8,8,8,8,8,8,8,8,8,8,8,8,8,8,8,8,8,8,8,8,8,8,8,8,8,8,8,8,8,8,8,8,8,8,8,8,8,8,8,8,8,8,8,8,8,8,8,8,8,8,8,8,8,8,8,8,8,8,8,8,8,8,8,8,8,8,8,8,8,8,8,8,8,8,8,8,8,8,8,8,8,8,8,8,8,8,8,8,8,8,8,8,8,8]⟩:ByteArray) ((x0) % 256)))))) else (none)) else (none))
end
def bits_Len64.f (k:Nat) (a0:Int):Option (Int):=if a0≥4294967296 then (bits_Len64.j0 k (a0 / 4294967296) 32) else (bits_Len64.j0 k a0 0)
theorem bits_Len64.mono_l:∀ k,(∀ y0 y1,LeO (bits_Len64.j0 k y0 y1) (bits_Len64.j0 (k+1) y0 y1))∧(∀ y0 y1,LeO (bits_Len64.j1 k y0 y1) (bits_Len64.j1 (k+1) y0 y1))
 | 0=>⟨fun _ _ r h=>by simp [bits_Len64.j0] at h,fun _ _ r h=>by simp [bits_Len64.j1] at h⟩
 | k+1=>by
  obtain ⟨ih0,ih1⟩:=bits_Len64.mono_l k
  refine ⟨?_,?_⟩
  ·intro y0 y1
   unfold bits_Len64.j0
   repeat' first
   | (with_reducible exact ih0 _ _)
   | (with_reducible exact ih1 _ _)
   | (with_reducible exact LeO.refl _)
   | (with_reducible exact LeO.none _)
   | (with_reducible refine LeO.ite ?_ ?_)
   | (with_reducible refine LeO.bind ?_ (fun _=>?_))
   | exact ih0 _ _
   | exact ih1 _ _
   | exact LeO.none _
   | refine LeO.ite ?_ ?_
   | refine LeO.bind ?_ (fun _=>?_)
  ·intro y0 y1
   unfold bits_Len64.j1
   repeat' first
   | (with_reducible exact ih0 _ _)
   | (with_reducible exact ih1 _ _)
   | (with_reducible exact LeO.refl _)
   | (with_reducible exact LeO.none _)
   | (with_reducible refine LeO.ite ?_ ?_)
   | (with_reducible refine LeO.bind ?_ (fun _=>?_))
   | exact ih0 _ _
   | exact ih1 _ _
   | exact LeO.none _
   | refine LeO.ite ?_ ?_
   | refine LeO.bind ?_ (fun _=>?_)
theorem bits_Len64.mono:∀ a0 k,LeO (bits_Len64.f k a0) (bits_Len64.f (k+1) a0):=by
 intro a0 k
 obtain ⟨ih0,ih1⟩:=bits_Len64.mono_l k
 unfold bits_Len64.f
 repeat' first
   | (with_reducible exact ih0 _ _)
   | (with_reducible exact ih1 _ _)
   | (with_reducible exact LeO.refl _)
   | (with_reducible exact LeO.none _)
   | (with_reducible refine LeO.ite ?_ ?_)
   | (with_reducible refine LeO.bind ?_ (fun _=>?_))
   | exact ih0 _ _
   | exact ih1 _ _
   | exact LeO.none _
   | refine LeO.ite ?_ ?_
   | refine LeO.bind ?_ (fun _=>?_)
set_option maxHeartbeats 8000000 in
set_option maxRecDepth 100000 in
theorem bits_Len64.calls (k:Nat) (a0:Int) (r:Int) (w:World) (h:bits_Len64.f k a0=some r) :
  Calls Tryd.prog 83 #[.int .u64 a0] w fun e w'=>e = .returned (.int .i64 r)∧Drawn0 w w':=by
 have H:(if a0≥4294967296 then (bits_Len64.j0 k (a0 / 4294967296) 32) else (bits_Len64.j0 k a0 0))=some r:=h
 clear h
 have HC2:=Aside0.mk H
 clear H
 go_enter Tryd.func83,Tryd.ntmps83
 go_upto_if 4 with (fail)
 go_cut [0,2] (fun v0 v2 wc=>∃ (kq:Nat) (x0_1:Int) (x2_1:Int),v0 = .int .u64 x0_1∧v2 = .int .i64 x2_1∧Aside0 (bits_Len64.j0 kq x0_1 x2_1=some r)∧Aside0 (kq≤k)∧Drawn0 w wc)
 case first =>
  have H:=HC2.out
  clear HC2
  by_cases c3:a0≥4294967296
  ·rw [if_pos c3] at H
   have c3b0:decide (4294967296≤a0)=true:=decide_eq_true c3
   clear c3
   (first | rw [c3b0] | (simp only [i64_w,i32_w];rw [c3b0]) | skip)
   have H':=Aside0.mk H
   clear H
   go_wp2
   go_meet
   case rel=>exact ⟨_,(a0 / 4294967296),(32),(z1_),(z1_),H',⟨by first | omega | exact Nat.le_refl _⟩,z5_⟩
  ·rw [if_neg c3] at H
   have c3b0:decide (4294967296≤a0)=false:=decide_eq_false c3
   clear c3
   (first | rw [c3b0] | (simp only [i64_w,i32_w];rw [c3b0]) | skip)
   have H':=Aside0.mk H
   clear H
   go_wp2
   go_meet
   case rel=>exact ⟨_,(a0),(0),(z1_),(z1_),H',⟨by first | omega | exact Nat.le_refl _⟩,z5_⟩
 case rest =>
  clear HC2
  try clear p2
  try clear c3
  try clear c3b0
  obtain ⟨kq,x0_1,x2_1,rfl,rfl,HA,HJ1,⟨mc1,rfl⟩⟩:=hcut
  cases kq with
  | zero=>exact absurd HA.out (by simp [bits_Len64.j0])
  | succ kj1 =>
   have H:=HA.out
   clear HA
   simp only [bits_Len64.j0] at H
   have HC4:=Aside0.mk H
   clear H
   go_upto_if 8 with (fail)
   go_cut [0,2] (fun v0 v2 wc=>∃ (kq:Nat) (x0_3:Int) (x2_3:Int),v0 = .int .u64 x0_3∧v2 = .int .i64 x2_3∧Aside0 (bits_Len64.j1 kq x0_3 x2_3=some r)∧Aside0 (kq≤kj1)∧Drawn0 w wc)
   case first =>
    have H:=HC4.out
    clear HC4
    by_cases c5:x0_1≥65536
    ·rw [if_pos c5] at H
     have c5b0:decide (65536≤x0_1)=true:=decide_eq_true c5
     clear c5
     (first | rw [c5b0] | (simp only [i64_w,i32_w];rw [c5b0]) | skip)
     have H':=Aside0.mk H
     clear H
     go_wp2
     go_meet
     case rel=>exact ⟨_,(x0_1 / 65536),(wrap64 (x2_1+16)),(z1_),(z1_),H',⟨z15_ HJ1.out⟩,z5_⟩
    ·rw [if_neg c5] at H
     have c5b0:decide (65536≤x0_1)=false:=decide_eq_false c5
     clear c5
     (first | rw [c5b0] | (simp only [i64_w,i32_w];rw [c5b0]) | skip)
     have H':=Aside0.mk H
     clear H
     go_wp2
     go_meet
     case rel=>exact ⟨_,(x0_1),(x2_1),(z1_),(z1_),H',⟨z15_ HJ1.out⟩,z5_⟩
   case rest =>
    clear HC4
    try clear c1
    try clear p2
    try clear c3
    try clear c3b0
    try clear c5
    try clear c5b0
    try clear p2
    obtain ⟨kq,x0_3,x2_3,rfl,rfl,HA,HJ3,⟨mc3,rfl⟩⟩:=hcut
    cases kq with
    | zero=>exact absurd HA.out (by simp [bits_Len64.j1])
    | succ kj3 =>
     have H:=HA.out
     clear HA
     simp only [bits_Len64.j1] at H
     by_cases c6:x0_3≥256
     ·rw [if_pos c6] at H
      have c6b0:decide (256≤x0_3)=true:=decide_eq_true c6
      clear c6
      obtain ⟨ji7,hji7⟩:∃ j_:Int,((x0_3 / 256) % 256)=j_:=⟨_,rfl⟩
      replace H:(if 0≤(ji7) then (if (ji7)<256 then (some (wrap64 ((wrap64 (x2_3+8))+(wrap64 (bt (⟨#[0,1,2,2,3,3,3,3,4,4,4,4,4,4,4,4,5,5,5,5,5,5,5,5,5,5,5,5,5,5,5,5,6,6,6,6,6,6,6,6,6,6,6,6,6,6,6,6,6,6,6,6,6,6,6,6,6,6,6,6,6,6,6,6,7,7,7,7,7,7,7,7,7,7,7,7,7,7,7,7,7,7,7,7,7,7,7,7,7,7,7,7,7,7,7,7,7,7,7,7,7,7,7,7,7,7,7,7,7,7,7,7,7,7,7,7,7,7,7,7,7,7,7,7,7,7,7,7,8,8,8,8,8,8,8,8,8,8,8,8,8,8,8,8,8,8,8,8,8,8,8,8,8,8,8,8,8,8,8,8,8,8,8,8,8,8,8,8,8,8,8,8,8,8,8,8,8,8,8,8,8,8,8,8,8,8,8,8,8,8,8,8,8,8,8,8,8,8,8,8,8,8,8,8,8,8,8,8,8,8,8,8,8,8,8,8,8,8,8,8,8,8,8,8,8,8,8,8,8,8,8,8,8,8,8,8,8,8,8,8,8,8,8,8,8,8,8,8,8,8,8,8,8,8,8,8]⟩:ByteArray) (ji7)))))) else (none)) else (none))=some r:=by first | (rw [hji7] at H;exact H) | (simp only [hji7] at H ⊢;exact H)
      by_cases c8:0≤(ji7)
      ·rw [if_pos c8] at H
       have c8b0:decide (0≤(ji7))=true:=decide_eq_true c8
       clear c8
       by_cases c9:(ji7)<256
       ·rw [if_pos c9] at H
        have c9b0:decide ((ji7)<256)=true:=decide_eq_true c9
        clear c9
        obtain rfl:=Option.some.inj H
        have p10:0≤((ji7):Int):=of_decide_eq_true (z0_)
        have q10:(ji7)<(256:Int):=of_decide_eq_true (z0_)
        have hx10:=bt_at (⟨#[0,1,2,2,3,3,3,3,4,4,4,4,4,4,4,4,5,5,5,5,5,5,5,5,5,5,5,5,5,5,5,5,6,6,6,6,6,6,6,6,6,6,6,6,6,6,6,6,6,6,6,6,6,6,6,6,6,6,6,6,6,6,6,6,7,7,7,7,7,7,7,7,7,7,7,7,7,7,7,7,7,7,7,7,7,7,7,7,7,7,7,7,7,7,7,7,7,7,7,7,7,7,7,7,7,7,7,7,7,7,7,7,7,7,7,7,7,7,7,7,7,7,7,7,7,7,7,7,8,8,8,8,8,8,8,8,8,8,8,8,8,8,8,8,8,8,8,8,8,8,8,8,8,8,8,8,8,8,8,8,8,8,8,8,8,8,8,8,8,8,8,8,8,8,8,8,8,8,8,8,8,8,8,8,8,8,8,8,8,8,8,8,8,8,8,8,8,8,8,8,8,8,8,8,8,8,8,8,8,8,8,8,8,8,8,8,8,8,8,8,8,8,8,8,8,8,8,8,8,8,8,8,8,8,8,8,8,8,8,8,8,8,8,8,8,8,8,8,8,8,8,8,8,8,8,8]⟩:ByteArray) (ji7)
        replace p10:=eq_true p10
        replace q10:=eq_true q10
        go_wp2
        go_ret
        exact ⟨by first | rfl | (simp;done) | (simp only [← hji7] <;> (first | rfl | simp)) | (simp [*];done),z5_⟩
       ·rw [if_neg c9] at H
        exact absurd H (by simp)
      ·rw [if_neg c8] at H
       exact absurd H (by simp)
     ·rw [if_neg c6] at H
      have c6b0:decide (256≤x0_3)=false:=decide_eq_false c6
      clear c6
      obtain ⟨ji11,hji11⟩:∃ j_:Int,((x0_3) % 256)=j_:=⟨_,rfl⟩
      replace H:(if 0≤(ji11) then (if (ji11)<256 then (some (wrap64 (x2_3+(wrap64 (bt (⟨#[0,1,2,2,3,3,3,3,4,4,4,4,4,4,4,4,5,5,5,5,5,5,5,5,5,5,5,5,5,5,5,5,6,6,6,6,6,6,6,6,6,6,6,6,6,6,6,6,6,6,6,6,6,6,6,6,6,6,6,6,6,6,6,6,7,7,7,7,7,7,7,7,7,7,7,7,7,7,7,7,7,7,7,7,7,7,7,7,7,7,7,7,7,7,7,7,7,7,7,7,7,7,7,7,7,7,7,7,7,7,7,7,7,7,7,7,7,7,7,7,7,7,7,7,7,7,7,7,8,8,8,8,8,8,8,8,8,8,8,8,8,8,8,8,8,8,8,8,8,8,8,8,8,8,8,8,8,8,8,8,8,8,8,8,8,8,8,8,8,8,8,8,8,8,8,8,8,8,8,8,8,8,8,8,8,8,8,8,8,8,8,8,8,8,8,8,8,8,8,8,8,8,8,8,8,8,8,8,8,8,8,8,8,8,8,8,8,8,8,8,8,8,8,8,8,8,8,8,8,8,8,8,8,8,8,8,8,8,8,8,8,8,8,8,8,8,8,8,8,8,8,8,8,8,8,8]⟩:ByteArray) (ji11)))))) else (none)) else (none))=some r:=by first | (rw [hji11] at H;exact H) | (simp only [hji11] at H ⊢;exact H)
      by_cases c12:0≤(ji11)
      ·rw [if_pos c12] at H
       have c12b0:decide (0≤(ji11))=true:=decide_eq_true c12
       clear c12
       by_cases c13:(ji11)<256
       ·rw [if_pos c13] at H
        have c13b0:decide ((ji11)<256)=true:=decide_eq_true c13
        clear c13
        obtain rfl:=Option.some.inj H
        have p14:0≤((ji11):Int):=of_decide_eq_true (z0_)
        have q14:(ji11)<(256:Int):=of_decide_eq_true (z0_)
        have hx14:=bt_at (⟨#[0,1,2,2,3,3,3,3,4,4,4,4,4,4,4,4,5,5,5,5,5,5,5,5,5,5,5,5,5,5,5,5,6,6,6,6,6,6,6,6,6,6,6,6,6,6,6,6,6,6,6,6,6,6,6,6,6,6,6,6,6,6,6,6,7,7,7,7,7,7,7,7,7,7,7,7,7,7,7,7,7,7,7,7,7,7,7,7,7,7,7,7,7,7,7,7,7,7,7,7,7,7,7,7,7,7,7,7,7,7,7,7,7,7,7,7,7,7,7,7,7,7,7,7,7,7,7,7,8,8,8,8,8,8,8,8,8,8,8,8,8,8,8,8,8,8,8,8,8,8,8,8,8,8,8,8,8,8,8,8,8,8,8,8,8,8,8,8,8,8,8,8,8,8,8,8,8,8,8,8,8,8,8,8,8,8,8,8,8,8,8,8,8,8,8,8,8,8,8,8,8,8,8,8,8,8,8,8,8,8,8,8,8,8,8,8,8,8,8,8,8,8,8,8,8,8,8,8,8,8,8,8,8,8,8,8,8,8,8,8,8,8,8,8,8,8,8,8,8,8,8,8,8,8,8,8]⟩:ByteArray) (ji11)
        replace p14:=eq_true p14
        replace q14:=eq_true q14
        go_wp2
        go_ret
        exact ⟨by first | rfl | (simp;done) | (simp only [← hji11] <;> (first | rfl | simp)) | (simp [*];done),z5_⟩
       ·rw [if_neg c13] at H
        exact absurd H (by simp)
      ·rw [if_neg c12] at H
       exact absurd H (by simp)


/-! ### bits_Len: function 71 -/
def bits_Len.f (k:Nat) (a0:Int):Option (Int):=(bits_Len64.f k a0).bind fun t254=>(some t254)
theorem bits_Len.mono:∀ a0 k,LeO (bits_Len.f k a0) (bits_Len.f (k+1) a0):=by
 intro a0 k
 unfold bits_Len.f
 repeat' first
   | (with_reducible exact bits_Len64.mono _ _)
   | (with_reducible exact LeO.refl _)
   | (with_reducible exact LeO.none _)
   | (with_reducible refine LeO.ite ?_ ?_)
   | (with_reducible refine LeO.bind ?_ (fun _=>?_))
   | exact bits_Len64.mono _ _
   | exact LeO.none _
   | refine LeO.ite ?_ ?_
   | refine LeO.bind ?_ (fun _=>?_)
set_option maxHeartbeats 8000000 in
set_option maxRecDepth 100000 in
theorem bits_Len.calls (k:Nat) (a0:Int) (r:Int) (w:World) (h:bits_Len.f k a0=some r) :
  Calls Tryd.prog 71 #[.int .u64 a0] w fun e w'=>e = .returned (.int .i64 r)∧Drawn0 w w':=by
 have H:((bits_Len64.f k a0).bind fun t254=>(some t254))=some r:=h
 clear h
 replace H:=Option.bind_eq_some_iff.mp H
 obtain ⟨t254,A20,H⟩:=H
 replace H:(some t254)=some r:=H
 have A2:=Aside0.mk A20
 clear A20
 obtain rfl:=Option.some.inj H
 go_enter Tryd.func71,Tryd.ntmps71
 go_wp2_with (first | ((with_reducible refine gc_ 83 ?_);refine gl_ (some 7) Tryd.func83 #[.int .u64 a0] ?_;(with_reducible refine (bits_Len64.calls k a0 t254 _ A2.out).mono ?_);rintro e w' ⟨rfl,⟨nd,rfl⟩⟩;refine ⟨_,rfl,?_⟩))
 go_ret
 exact ⟨z1_,z5_⟩


/-! ### cmp_Or_int: function 62 -/
def cmp_Or_int.l0:Nat→Int→List Int→Int→Int→Option (Int)
 | 0,_,_,_,_=>none
 | k+1,x3,x6,x7,x8=>if x8<x7 then (if 0≤x8 then (if x8<(x6.length:Int) then (if (rd x6 x8)=x3 then (cmp_Or_int.l0 k x3 x6 x7 (wrap64 (x8+1))) else (some (rd x6 x8))) else (none)) else (none)) else (some x3)
def cmp_Or_int.f (k:Nat) (l0:List Int):Option (Int):=cmp_Or_int.l0 k 0 l0 (l0.length:Int) 0
theorem cmp_Or_int.mono_l:∀ k,(∀ y0 y1 y2 y3,LeO (cmp_Or_int.l0 k y0 y1 y2 y3) (cmp_Or_int.l0 (k+1) y0 y1 y2 y3))
 | 0=>fun _ _ _ _ r h=>by simp [cmp_Or_int.l0] at h
 | k+1=>by
  have ih0:=cmp_Or_int.mono_l k
  ·intro y0 y1 y2 y3
   unfold cmp_Or_int.l0
   repeat' first
   | (with_reducible exact ih0 _ _ _ _)
   | (with_reducible exact LeO.refl _)
   | (with_reducible exact LeO.none _)
   | (with_reducible refine LeO.ite ?_ ?_)
   | (with_reducible refine LeO.bind ?_ (fun _=>?_))
   | exact ih0 _ _ _ _
   | exact LeO.none _
   | refine LeO.ite ?_ ?_
   | refine LeO.bind ?_ (fun _=>?_)
theorem cmp_Or_int.mono:∀ a0 k,LeO (cmp_Or_int.f k a0) (cmp_Or_int.f (k+1) a0):=by
 intro a0 k
 have ih0:=cmp_Or_int.mono_l k
 unfold cmp_Or_int.f
 repeat' first
   | (with_reducible exact ih0 _ _ _ _)
   | (with_reducible exact LeO.refl _)
   | (with_reducible exact LeO.none _)
   | (with_reducible refine LeO.ite ?_ ?_)
   | (with_reducible refine LeO.bind ?_ (fun _=>?_))
   | exact ih0 _ _ _ _
   | exact LeO.none _
   | refine LeO.ite ?_ ?_
   | refine LeO.bind ?_ (fun _=>?_)
set_option maxHeartbeats 8000000 in
set_option maxRecDepth 100000 in
theorem cmp_Or_int.calls (k:Nat) (A0:Option Addr) (c0:Nat) (l0:List Int) (r:Int) (w:World) (hr0:Kd.C (Kd.int .i64) w A0 l0.length l0) (hc0:l0.length≤c0) (h:cmp_Or_int.f k l0=some r) :
  Calls Tryd.prog 62 #[.slice A0 l0.length c0] w fun e w'=>e = .returned (.int .i64 r)∧Drawn0 w w':=by
 have HR0:=Aside0.mk hr0
 have HC0:=Aside0.mk hc0
 clear hr0 hc0
 have H:(cmp_Or_int.l0 k 0 l0 (l0.length:Int) 0)=some r:=h
 clear h
 have H':=Aside0.mk H
 clear H
 go_enter Tryd.func62,Tryd.ntmps62
 go_wp2
 go_loopg [8] k (fun kq v8 w'=>∃ (x8_1:Int),v8 = .int .i64 x8_1∧Aside0 (cmp_Or_int.l0 kq 0 l0 (l0.length:Int) x8_1=some r)∧Aside0 (kq≤k)∧Drawn0 w w')
 case atStart=>exact ⟨(0),(z1_),H',⟨Nat.le_refl _⟩,z5_⟩
 case round =>
  clear H'
  obtain ⟨x8_1,rfl,HA,HK1,⟨m1,rfl⟩⟩:=hrel
  cases gk with
  | zero=>exact absurd HA.out (by simp [cmp_Or_int.l0])
  | succ k1 =>
   have H:=HA.out
   clear HA
   simp only [cmp_Or_int.l0] at H
   by_cases c2:x8_1<(l0.length:Int)
   ·rw [if_pos c2] at H
    have c2b0:decide (x8_1<(l0.length:Int))=true:=decide_eq_true c2
    clear c2
    by_cases c3:0≤x8_1
    ·rw [if_pos c3] at H
     have c3b0:decide (0≤x8_1)=true:=decide_eq_true c3
     clear c3
     by_cases c4:x8_1<(l0.length:Int)
     ·rw [if_pos c4] at H
      have c4b0:decide (x8_1<(l0.length:Int))=true:=decide_eq_true c4
      clear c4
      by_cases c5:(rd l0 x8_1)=0
      ·rw [if_pos c5] at H
       have c5b0:((rd l0 x8_1) == 0)=true:=beq_iff_eq.mpr c5
       have c5b1:((rd l0 x8_1) != 0)=false:=bne_eq_false_iff_eq.mpr c5
       clear c5
       have H':=Aside0.mk H
       clear H
       have p255:0≤(x8_1:Int):=of_decide_eq_true (z0_)
       have q255:x8_1<(l0.length:Int):=of_decide_eq_true (z0_)
       obtain ⟨ad255,e255,hx255_0⟩:=Kd.at_int HR0.out x8_1 p255 q255
       cases e255
       replace p255:=eq_true p255
       replace q255:=eq_true q255
       go_wp2
       go_roundg k1
       case measure=>have:=HK1.out;omega
       case rel=>exact ⟨(wrap64 (x8_1+1)),(z1_),H',⟨by have:=HK1.out;omega⟩,z5_⟩
      ·rw [if_neg c5] at H
       have c5b0:((rd l0 x8_1) == 0)=false:=beq_eq_false_iff_ne.mpr c5
       have c5b1:((rd l0 x8_1) != 0)=true:=bne_iff_ne.mpr c5
       obtain rfl:=Option.some.inj H
       have p255:0≤(x8_1:Int):=of_decide_eq_true (z0_)
       have q255:x8_1<(l0.length:Int):=of_decide_eq_true (z0_)
       obtain ⟨ad255,e255,hx255_0⟩:=Kd.at_int HR0.out x8_1 p255 q255
       cases e255
       replace p255:=eq_true p255
       replace q255:=eq_true q255
       go_wp2
       go_ret
       exact ⟨z1_,z5_⟩
     ·rw [if_neg c4] at H
      exact absurd H (by simp)
    ·rw [if_neg c3] at H
     exact absurd H (by simp)
   ·rw [if_neg c2] at H
    have c2b0:decide (x8_1<(l0.length:Int))=false:=decide_eq_false c2
    clear c2
    obtain rfl:=Option.some.inj H
    go_wp2
    go_ret
    exact ⟨z1_,z5_⟩


/-! ### cmp_isNaN_int64: function 72 -/
def cmp_isNaN_int64.f (a0:Int):Option (Bool):=some (a0 != a0)
set_option maxHeartbeats 8000000 in
set_option maxRecDepth 100000 in
theorem cmp_isNaN_int64.calls (a0:Int) (r:Bool) (w:World) (h:cmp_isNaN_int64.f a0=some r) :
  Calls Tryd.prog 72 #[.int .i64 a0] w fun e w'=>e = .returned (.bool r)∧Drawn0 w w':=by
 have H:(some (a0 != a0))=some r:=h
 clear h
 obtain rfl:=Option.some.inj H
 go_enter Tryd.func72,Tryd.ntmps72
 go_wp2
 go_ret
 exact ⟨z1_,z5_⟩


/-! ### cmp_Compare_int64: function 63 -/
def cmp_Compare_int64.f (a0:Int) (a1:Int):Option (Int):=(cmp_isNaN_int64.f a0).bind fun t256=>((cmp_isNaN_int64.f a1).bind fun t257=>(if t256=true then (if t257=true then (some 0) else (some (-1))) else (if t257=true then (some 1) else (if a0<a1 then (some (-1)) else (if a0>a1 then (some 1) else (some 0))))))
set_option maxHeartbeats 8000000 in
set_option maxRecDepth 100000 in
theorem cmp_Compare_int64.calls (a0:Int) (a1:Int) (r:Int) (w:World) (h:cmp_Compare_int64.f a0 a1=some r) :
  Calls Tryd.prog 63 #[.int .i64 a0,.int .i64 a1] w fun e w'=>e = .returned (.int .i64 r)∧Drawn0 w w':=by
 have H:((cmp_isNaN_int64.f a0).bind fun t256=>((cmp_isNaN_int64.f a1).bind fun t257=>(if t256=true then (if t257=true then (some 0) else (some (-1))) else (if t257=true then (some 1) else (if a0<a1 then (some (-1)) else (if a0>a1 then (some 1) else (some 0)))))))=some r:=h
 clear h
 replace H:=Option.bind_eq_some_iff.mp H
 obtain ⟨t256,A30,H⟩:=H
 replace H:((cmp_isNaN_int64.f a1).bind fun t257=>(if t256=true then (if t257=true then (some 0) else (some (-1))) else (if t257=true then (some 1) else (if a0<a1 then (some (-1)) else (if a0>a1 then (some 1) else (some 0))))))=some r:=H
 have A3:=Aside0.mk A30
 clear A30
 replace H:=Option.bind_eq_some_iff.mp H
 obtain ⟨t257,A40,H⟩:=H
 replace H:(if t256=true then (if t257=true then (some 0) else (some (-1))) else (if t257=true then (some 1) else (if a0<a1 then (some (-1)) else (if a0>a1 then (some 1) else (some 0)))))=some r:=H
 have A4:=Aside0.mk A40
 clear A40
 by_cases c5:t256=true
 ·subst c5
  have H1:(if t257=true then (some 0) else (some (-1)))=some r:=by rw [if_pos rfl] at H;exact H
  clear H
  have H:=H1
  clear H1
  by_cases c6:t257=true
  ·subst c6
   have H1:(some 0)=some r:=by rw [if_pos rfl] at H;exact H
   clear H
   have H:=H1
   clear H1
   obtain rfl:=Option.some.inj H
   go_enter Tryd.func63,Tryd.ntmps63
   go_wp2_with (first | ((with_reducible refine gc_ 72 ?_);refine gl_ (some 8) Tryd.func72 #[.int .i64 a0] ?_;(with_reducible refine (cmp_isNaN_int64.calls a0 true _ A3.out).mono ?_);rintro e w' ⟨rfl,⟨nd,rfl⟩⟩;refine ⟨_,rfl,?_⟩) | ((with_reducible refine gc_ 72 ?_);refine gl_ (some 10) Tryd.func72 #[.int .i64 a1] ?_;(with_reducible refine (cmp_isNaN_int64.calls a1 true _ A4.out).mono ?_);rintro e w' ⟨rfl,⟨nd,rfl⟩⟩;refine ⟨_,rfl,?_⟩))
   go_ret
   exact ⟨z1_,z5_⟩
  ·replace c6:=Bool.eq_false_iff.mpr c6
   subst c6
   have H1:(some (-1))=some r:=by rw [if_neg (show ¬ (false=true) by decide)] at H;exact H
   clear H
   have H:=H1
   clear H1
   obtain rfl:=Option.some.inj H
   go_enter Tryd.func63,Tryd.ntmps63
   go_wp2_with (first | ((with_reducible refine gc_ 72 ?_);refine gl_ (some 8) Tryd.func72 #[.int .i64 a0] ?_;(with_reducible refine (cmp_isNaN_int64.calls a0 true _ A3.out).mono ?_);rintro e w' ⟨rfl,⟨nd,rfl⟩⟩;refine ⟨_,rfl,?_⟩) | ((with_reducible refine gc_ 72 ?_);refine gl_ (some 10) Tryd.func72 #[.int .i64 a1] ?_;(with_reducible refine (cmp_isNaN_int64.calls a1 false _ A4.out).mono ?_);rintro e w' ⟨rfl,⟨nd,rfl⟩⟩;refine ⟨_,rfl,?_⟩))
   go_ret
   exact ⟨z1_,z5_⟩
 ·replace c5:=Bool.eq_false_iff.mpr c5
  subst c5
  have H1:(if t257=true then (some 1) else (if a0<a1 then (some (-1)) else (if a0>a1 then (some 1) else (some 0))))=some r:=by rw [if_neg (show ¬ (false=true) by decide)] at H;exact H
  clear H
  have H:=H1
  clear H1
  by_cases c7:t257=true
  ·subst c7
   have H1:(some 1)=some r:=by rw [if_pos rfl] at H;exact H
   clear H
   have H:=H1
   clear H1
   obtain rfl:=Option.some.inj H
   go_enter Tryd.func63,Tryd.ntmps63
   go_wp2_with (first | ((with_reducible refine gc_ 72 ?_);refine gl_ (some 8) Tryd.func72 #[.int .i64 a0] ?_;(with_reducible refine (cmp_isNaN_int64.calls a0 false _ A3.out).mono ?_);rintro e w' ⟨rfl,⟨nd,rfl⟩⟩;refine ⟨_,rfl,?_⟩) | ((with_reducible refine gc_ 72 ?_);refine gl_ (some 10) Tryd.func72 #[.int .i64 a1] ?_;(with_reducible refine (cmp_isNaN_int64.calls a1 true _ A4.out).mono ?_);rintro e w' ⟨rfl,⟨nd,rfl⟩⟩;refine ⟨_,rfl,?_⟩))
   go_ret
   exact ⟨z1_,z5_⟩
  ·replace c7:=Bool.eq_false_iff.mpr c7
   subst c7
   have H1:(if a0<a1 then (some (-1)) else (if a0>a1 then (some 1) else (some 0)))=some r:=by rw [if_neg (show ¬ (false=true) by decide)] at H;exact H
   clear H
   have H:=H1
   clear H1
   by_cases c8:a0<a1
   ·rw [if_pos c8] at H
    have c8b0:decide (a0<a1)=true:=decide_eq_true c8
    clear c8
    obtain rfl:=Option.some.inj H
    go_enter Tryd.func63,Tryd.ntmps63
    go_wp2_with (first | ((with_reducible refine gc_ 72 ?_);refine gl_ (some 8) Tryd.func72 #[.int .i64 a0] ?_;(with_reducible refine (cmp_isNaN_int64.calls a0 false _ A3.out).mono ?_);rintro e w' ⟨rfl,⟨nd,rfl⟩⟩;refine ⟨_,rfl,?_⟩) | ((with_reducible refine gc_ 72 ?_);refine gl_ (some 10) Tryd.func72 #[.int .i64 a1] ?_;(with_reducible refine (cmp_isNaN_int64.calls a1 false _ A4.out).mono ?_);rintro e w' ⟨rfl,⟨nd,rfl⟩⟩;refine ⟨_,rfl,?_⟩))
    go_ret
    exact ⟨z1_,z5_⟩
   ·rw [if_neg c8] at H
    have c8b0:decide (a0<a1)=false:=decide_eq_false c8
    clear c8
    by_cases c9:a0>a1
    ·rw [if_pos c9] at H
     have c9b0:decide (a1<a0)=true:=decide_eq_true c9
     clear c9
     obtain rfl:=Option.some.inj H
     go_enter Tryd.func63,Tryd.ntmps63
     go_wp2_with (first | ((with_reducible refine gc_ 72 ?_);refine gl_ (some 8) Tryd.func72 #[.int .i64 a0] ?_;(with_reducible refine (cmp_isNaN_int64.calls a0 false _ A3.out).mono ?_);rintro e w' ⟨rfl,⟨nd,rfl⟩⟩;refine ⟨_,rfl,?_⟩) | ((with_reducible refine gc_ 72 ?_);refine gl_ (some 10) Tryd.func72 #[.int .i64 a1] ?_;(with_reducible refine (cmp_isNaN_int64.calls a1 false _ A4.out).mono ?_);rintro e w' ⟨rfl,⟨nd,rfl⟩⟩;refine ⟨_,rfl,?_⟩))
     go_ret
     exact ⟨z1_,z5_⟩
    ·rw [if_neg c9] at H
     have c9b0:decide (a1<a0)=false:=decide_eq_false c9
     clear c9
     obtain rfl:=Option.some.inj H
     go_enter Tryd.func63,Tryd.ntmps63
     go_wp2_with (first | ((with_reducible refine gc_ 72 ?_);refine gl_ (some 8) Tryd.func72 #[.int .i64 a0] ?_;(with_reducible refine (cmp_isNaN_int64.calls a0 false _ A3.out).mono ?_);rintro e w' ⟨rfl,⟨nd,rfl⟩⟩;refine ⟨_,rfl,?_⟩) | ((with_reducible refine gc_ 72 ?_);refine gl_ (some 10) Tryd.func72 #[.int .i64 a1] ?_;(with_reducible refine (cmp_isNaN_int64.calls a1 false _ A4.out).mono ?_);rintro e w' ⟨rfl,⟨nd,rfl⟩⟩;refine ⟨_,rfl,?_⟩))
     go_ret
     exact ⟨z1_,z5_⟩


/-! ### impl_ringNew_1: function 61 -/
def impl_ringNew_1.f (k:Nat) (a0_0:Int) (a0_1:Int) (a1_0:Int) (a1_1:Int):Option (Int):=(cmp_Compare_int64.f a0_0 a1_0).bind fun t260=>((cmp_Compare_int64.f a0_1 a1_1).bind fun t261=>((cmp_Or_int.f k (([t260,t261]:List Int))).bind fun t265=>(some t265)))
theorem impl_ringNew_1.mono:∀ a0 a1 a2 a3 k,LeO (impl_ringNew_1.f k a0 a1 a2 a3) (impl_ringNew_1.f (k+1) a0 a1 a2 a3):=by
 intro a0 a1 a2 a3 k
 unfold impl_ringNew_1.f
 repeat' first
   | (with_reducible exact cmp_Or_int.mono _ _)
   | (with_reducible exact LeO.refl _)
   | (with_reducible exact LeO.none _)
   | (with_reducible refine LeO.ite ?_ ?_)
   | (with_reducible refine LeO.bind ?_ (fun _=>?_))
   | exact cmp_Or_int.mono _ _
   | exact LeO.none _
   | refine LeO.ite ?_ ?_
   | refine LeO.bind ?_ (fun _=>?_)
def impl_ringNew_1.T1:Bool × List (List Nat × List Nat):=(true,[([],[]),([0],[0]),([],[]),([2],[2]),([1,3],[1,3]),([],[]),([5],[5]),([],[]),([7],[7]),([6,8,4],[6,8]),([4,9],[4,9]),([10,9],[10]),([11,11,0,1,2,3,4,5,6,7,8,9,10,11],[11])])
def impl_ringNew_1.B1:List Nat:=[0,1,0,4,15,0,32,0,128,511,1023,2047,4095]
theorem impl_ringNew_1.tab1:rtab .any (opsOf Tryd.f61 1)=impl_ringNew_1.T1:=by kernel_rfl
theorem impl_ringNew_1.bits1:waitsOk impl_ringNew_1.T1.2 impl_ringNew_1.B1=true:=by kernel_rfl
set_option maxHeartbeats 8000000 in
set_option maxRecDepth 100000 in
theorem impl_ringNew_1.calls (k:Nat) (a0_0:Int) (a0_1:Int) (a1_0:Int) (a1_1:Int) (r:Int) (w:World) (h:impl_ringNew_1.f k a0_0 a0_1 a1_0 a1_1=some r) :
  Calls Tryd.prog 61 #[.agg #[.int .i64 a0_0,.int .i64 a0_1],.agg #[.int .i64 a1_0,.int .i64 a1_1]] w fun e w'=>e = .returned (.int .i64 r)∧Below w.heap.size w w':=by
 have hu59:=Tryd.underlying59
 have HB:=Aside0.mk (Below.refl w.heap.size w)
 have H:((cmp_Compare_int64.f a0_0 a1_0).bind fun t260=>((cmp_Compare_int64.f a0_1 a1_1).bind fun t261=>((cmp_Or_int.f k (([t260,t261]:List Int))).bind fun t265=>(some t265))))=some r:=h
 clear h
 replace H:=Option.bind_eq_some_iff.mp H
 obtain ⟨t260,A30,H⟩:=H
 replace H:((cmp_Compare_int64.f a0_1 a1_1).bind fun t261=>((cmp_Or_int.f k (([t260,t261]:List Int))).bind fun t265=>(some t265)))=some r:=H
 have A3:=Aside0.mk A30
 clear A30
 replace H:=Option.bind_eq_some_iff.mp H
 obtain ⟨t261,A40,H⟩:=H
 replace H:((cmp_Or_int.f k (([t260,t261]:List Int))).bind fun t265=>(some t265))=some r:=H
 have A4:=Aside0.mk A40
 clear A40
 obtain ⟨y262,hy262⟩:∃ y_:List Int,y_=(([t260,t261]:List Int)):=⟨_,rfl⟩
 replace H:((cmp_Or_int.f k y262).bind fun t265=>(some t265))=some r:=by first | (rw [hy262];with_reducible exact H) | (have H2_:=(Option.bind_some _ _).symm.trans H;rw [hy262];with_reducible exact H2_) | (have H2_:=(Option.bind_some _ _).symm.trans H;with_reducible exact H2_) | with_reducible exact H | (rw [hy262];exact H) | exact H
 have Ny262:=Aside0.mk hy262
 clear hy262
 replace H:=Option.bind_eq_some_iff.mp H
 obtain ⟨t265,A50,H⟩:=H
 replace H:(some t265)=some r:=H
 have A5:=Aside0.mk A50
 clear A50
 obtain rfl:=Option.some.inj H
 go_enter Tryd.func61,Tryd.ntmps61
 try go_wp2_with (first | ((with_reducible refine gd_ 2 ?_);refine be_ 2 #[.int .i64 a0_0,.int .i64 a0_1] 59 ?_;intro gb258 hg w6 hbox hb;refine as4_ (below_step (z6_ HB.out) hb) (hbox) ((z8_ HB.out:w.heap.size≤gb258)) ((z8_ HB.out:w.heap.size≤gb258)) ?_;clear HB;intro HB BK258 GW258 GE258;clear hb hbox hg) | ((with_reducible refine gd_ 3 ?_);refine be_ 3 #[.int .i64 a1_0,.int .i64 a1_1] 59 ?_;intro gb259 hg w7 hbox hb;refine as7_ (blkB_ BK258.out hb) (below_step (z4_ HB.out GE258.out) hb) (hbox) ((z12_ HB.out GE258.out:w.heap.size≤gb259)) ((z12_ HB.out GE258.out:w.heap.size≤gb259)) (neL_ BK258.out hg) (neG_ BK258.out hg) ?_;clear BK258 HB;intro BK258 HB BK259 GW259 GE259 NB258_259 NB259_258;clear hb hbox hg))
 refine as3_ (blk_drew BK258.out) (blk_drew BK259.out) (below_drew1 HB.out) ?_
 clear BK258 BK259 HB
 intro BK258 BK259 HB
 refine start_ (n:=13) (S:=fun w'=>w'.cell? ⟨gb258,0,none⟩=some (.int .i64 a0_0)∧w'.cell? ⟨gb258,1,none⟩=some (.int .i64 a0_1)∧w'.cell? ⟨gb259,0,none⟩=some (.int .i64 a1_0)∧w'.cell? ⟨gb259,1,none⟩=some (.int .i64 a1_1)) (ds:=[]) #[O,O,O,O,O,O,O,O,O,O,O,O,O] (by kernel_rfl) rfl rfl (cj2_ BK258.out (cc2_ BK259.out)) (fun hHeld=>?_);refine with_tabW impl_ringNew_1.tab1 impl_ringNew_1.bits1 (fun HT_ HW_=>?_)
 generalize w7.drew=w8 at BK258 BK259 HB hHeld ⊢
 refine pu_ 0 5 #[I,O,O,O,O,O,O,O,O,O,O,O,O] HT_.out ?_
 refine pu_ 2 7 #[I,O,I,O,O,O,O,O,O,O,O,O,O] HT_.out ?_
 refine pu_ 5 10 #[I,O,I,O,O,I,O,O,O,O,O,O,O] HT_.out ?_
 refine pu_ 7 12 #[I,O,I,O,O,I,O,I,O,O,O,O,O] HT_.out ?_
 refine tk4_ 1 6 #[I,I,I,O,O,I,O,I,O,O,O,O,O] HT_.out HW_.out hHeld ?_
 refine tk4_ 3 8 #[I,I,I,I,O,I,O,I,O,O,O,O,O] HT_.out HW_.out hHeld ?_
 refine tk4_ 6 11 #[I,I,I,I,O,I,I,I,O,O,O,O,O] HT_.out HW_.out hHeld ?_
 refine tk4_ 8 13 #[I,I,I,I,O,I,I,I,I,O,O,O,O] HT_.out HW_.out hHeld ?_
 refine o1_ 4 9 #[I,I,I,I,I,I,I,I,I,O,O,O,O] HT_.out (fun K hK=>?_)
 refine gs_ Tryd.func63 #[.int .i64 a0_0,.int .i64 a1_0] ?_
 with_reducible refine (cmp_Compare_int64.calls a0_0 a1_0 t260 _ A3.out).mono ?_
 rintro e w' ⟨rfl,⟨nd,rfl⟩⟩
 refine ⟨_,rfl,?_⟩
 refine hK.out _ _ (cj2_ BK258.out (cc2_ BK259.out)) (fun hHeld=>?_)
 clear hK K
 refine nm_ 9 ?_
 refine o1_ 9 14 #[I,I,I,I,I,I,I,I,I,I,O,O,O] HT_.out (fun K hK=>?_)
 refine gs_ Tryd.func63 #[.int .i64 a0_1,.int .i64 a1_1] ?_
 with_reducible refine (cmp_Compare_int64.calls a0_1 a1_1 t261 _ A4.out).mono ?_
 rintro e w' ⟨rfl,⟨nd,rfl⟩⟩
 refine ⟨_,rfl,?_⟩
 refine hK.out _ _ (cj2_ BK258.out (cc2_ BK259.out)) (fun hHeld=>?_)
 clear hK K
 refine nm_ 14 ?_
 refine o1_ 10 15 #[I,I,I,I,I,I,I,I,I,I,I,O,O] HT_.out (fun K hK=>?_)
 refine Kd.R_lit_step (Kd.int .i64) _ 3 ?hg (N:=15) ?hd (xs:=([t260,t261]:List Int)) (inner:=[.int .i64 t260,.int .i64 t261]) (ok:=fun _=>True) (okp:=fun _=>True) ?hr ?hp (fun _ hk=>hk) trivial (Below.refl _ _) (Nat.le_refl _) (by simp) ?_;(case hd=>rfl);(case hg=>rfl);(case hr=>first | (go_simp;done) | (go_simp;rfl));(case hp=>exact (Reps.one (show Kd.M (Kd.int .i64) _ _ _ t260 [.int .i64 t260] from rfl) (Reps.one (show Kd.M (Kd.int .i64) _ _ _ t261 [.int .i64 t261] from rfl) (Reps.none _ _))))
 intro v263 w9 ho10 hb hg_ hnew_
 clear hg_ hnew_
 (first | rw [← Ny262.out] at ho10 | (simp only [Int.reduceToNat] at ho10;rw [← Ny262.out] at ho10))
 refine as4_ (Kd.R_lower ho10 (below_size (z7_ HB.out GE258.out GE259.out))) (blkB_ BK258.out hb) (blkB_ BK259.out hb) (below_step (z7_ HB.out GE258.out GE259.out) hb) ?_
 clear BK258 BK259 HB
 intro HO264 BK258 BK259 HB
 clear hb ho10
 obtain ⟨Ao11,co11,eo11⟩:=Kd.R_slice HO264.out
 (first | subst eo11 | (injection eo11 with f1_ f2_ f3_;have f4_:=f1_.symm;have f5_:=f3_.symm;clear f1_ f2_ f3_;subst f4_;subst f5_))
 refine hK.out _ _ (cj2_ BK258.out (cc2_ BK259.out)) (fun hHeld=>?_)
 clear hK K
 refine nm_ 15 ?_
 refine o1_ 11 16 #[I,I,I,I,I,I,I,I,I,I,I,I,O] HT_.out (fun K hK=>?_)
 refine gs_ Tryd.func62 #[.slice Ao11 y262.length co11] ?_
 with_reducible refine (cmp_Or_int.calls k _ _ y262 t265 _ ?s1 ?s2 A5.out).mono ?_
 (case s1=>repeat (first | exact (Kd.R_reads' HO264.out).2.2 | (with_reducible refine Kd.C_alloc ?_ _) | (with_reducible refine Kd.C_drewN ?_ _) | (with_reducible refine Kd.C_drew ?_)))
 (case s2=>exact (Kd.R_reads' HO264.out).2.1)
 rintro e w' ⟨rfl,⟨nd,rfl⟩⟩
 refine ⟨_,rfl,?_⟩
 refine hK.out _ _ (cj2_ BK258.out (cc2_ BK259.out)) (fun hHeld=>?_)
 clear hK K
 refine nm_ 16 ?_
 refine pu_ 12 4 #[I,I,I,I,I,I,I,I,I,I,I,I,I] HT_.out ?_
 refine done_ (done_of HT_.out (by kernel_rfl)) ?_
 try go_wp2
 go_ret
 exact ⟨z10_,z7_ HB.out GE258.out GE259.out⟩


/-! ### slices_insertionSortCmpFunc_impl_Token_impl_ringNew_1: function 74 -/
mutual
def slices_insertionSortCmpFunc_impl_Token_impl_ringNew_1.l0:Nat→List (S59)→Int→Int→Int→Option ((List (S59)))
 | 0,_,_,_,_=>none
 | k+1,x0,x1,x2,x8=>if x8<x2 then (slices_insertionSortCmpFunc_impl_Token_impl_ringNew_1.l1 k x0 x1 x2 x8 x8) else (some x0)
def slices_insertionSortCmpFunc_impl_Token_impl_ringNew_1.l1:Nat→List (S59)→Int→Int→Int→Int→Option ((List (S59)))
 | 0,_,_,_,_,_=>none
 | k+1,x0,x1,x2,x8,x9=>if x9>x1 then (if 0≤x9 then (if x9<(x0.length:Int) then (if 0≤(wrap64 (x9-1)) then (if (wrap64 (x9-1))<(x0.length:Int) then ((impl_ringNew_1.f k ((rd_T59 x0 x9).f0) ((rd_T59 x0 x9).f1) ((rd_T59 x0 (wrap64 (x9-1))).f0) ((rd_T59 x0 (wrap64 (x9-1))).f1)).bind fun t268=>(slices_insertionSortCmpFunc_impl_Token_impl_ringNew_1.j2 k x0 x1 x2 x8 x9 (decide (t268<0)))) else (none)) else (none)) else (none)) else (none)) else (slices_insertionSortCmpFunc_impl_Token_impl_ringNew_1.j2 k x0 x1 x2 x8 x9 false)
def slices_insertionSortCmpFunc_impl_Token_impl_ringNew_1.j2:Nat→List (S59)→Int→Int→Int→Int→Bool→Option ((List (S59)))
 | 0,_,_,_,_,_,_=>none
 | k+1,x0,x1,x2,x8,x9,x34=>if x34=true then (if 0≤(wrap64 (x9-1)) then (if (wrap64 (x9-1))<(x0.length:Int) then (if 0≤x9 then (if x9<(x0.length:Int) then (slices_insertionSortCmpFunc_impl_Token_impl_ringNew_1.l1 k ((x0.set (x9:Int).toNat (⟨(rd_T59 x0 (wrap64 (x9-1))).f0,(rd_T59 x0 (wrap64 (x9-1))).f1⟩:S59)).set ((wrap64 (x9-1)):Int).toNat (⟨(rd_T59 x0 x9).f0,(rd_T59 x0 x9).f1⟩:S59)) x1 x2 x8 (wrap64 (x9-1))) else (none)) else (none)) else (none)) else (none)) else (slices_insertionSortCmpFunc_impl_Token_impl_ringNew_1.l0 k x0 x1 x2 (wrap64 (x8+1)))
end
def slices_insertionSortCmpFunc_impl_Token_impl_ringNew_1.f (k:Nat) (l0:List (S59)) (a1:Int) (a2:Int)  : Option ((List (S59))):=slices_insertionSortCmpFunc_impl_Token_impl_ringNew_1.l0 k l0 a1 a2 (wrap64 (a1+1))
theorem slices_insertionSortCmpFunc_impl_Token_impl_ringNew_1.mono_l:∀ k,(∀ y0 y1 y2 y3,LeO (slices_insertionSortCmpFunc_impl_Token_impl_ringNew_1.l0 k y0 y1 y2 y3) (slices_insertionSortCmpFunc_impl_Token_impl_ringNew_1.l0 (k+1) y0 y1 y2 y3))∧(∀ y0 y1 y2 y3 y4,LeO (slices_insertionSortCmpFunc_impl_Token_impl_ringNew_1.l1 k y0 y1 y2 y3 y4) (slices_insertionSortCmpFunc_impl_Token_impl_ringNew_1.l1 (k+1) y0 y1 y2 y3 y4))∧(∀ y0 y1 y2 y3 y4 y5,LeO (slices_insertionSortCmpFunc_impl_Token_impl_ringNew_1.j2 k y0 y1 y2 y3 y4 y5) (slices_insertionSortCmpFunc_impl_Token_impl_ringNew_1.j2 (k+1) y0 y1 y2 y3 y4 y5))
 | 0=>⟨fun _ _ _ _ r h=>by simp [slices_insertionSortCmpFunc_impl_Token_impl_ringNew_1.l0] at h,fun _ _ _ _ _ r h=>by simp [slices_insertionSortCmpFunc_impl_Token_impl_ringNew_1.l1] at h,fun _ _ _ _ _ _ r h=>by simp [slices_insertionSortCmpFunc_impl_Token_impl_ringNew_1.j2] at h⟩
 | k+1=>by
  obtain ⟨ih0,ih1,ih2⟩:=slices_insertionSortCmpFunc_impl_Token_impl_ringNew_1.mono_l k
  refine ⟨?_,?_,?_⟩
  ·intro y0 y1 y2 y3
   unfold slices_insertionSortCmpFunc_impl_Token_impl_ringNew_1.l0
   repeat' first
   | (with_reducible exact ih0 _ _ _ _)
   | (with_reducible exact ih1 _ _ _ _ _)
   | (with_reducible exact ih2 _ _ _ _ _ _)
   | (with_reducible exact impl_ringNew_1.mono _ _ _ _ _)
   | (with_reducible exact LeO.refl _)
   | (with_reducible exact LeO.none _)
   | (with_reducible refine LeO.ite ?_ ?_)
   | (with_reducible refine LeO.bind ?_ (fun _=>?_))
   | exact ih0 _ _ _ _
   | exact ih1 _ _ _ _ _
   | exact ih2 _ _ _ _ _ _
   | exact impl_ringNew_1.mono _ _ _ _ _
   | exact LeO.none _
   | refine LeO.ite ?_ ?_
   | refine LeO.bind ?_ (fun _=>?_)
  ·intro y0 y1 y2 y3 y4
   unfold slices_insertionSortCmpFunc_impl_Token_impl_ringNew_1.l1
   repeat' first
   | (with_reducible exact ih0 _ _ _ _)
   | (with_reducible exact ih1 _ _ _ _ _)
   | (with_reducible exact ih2 _ _ _ _ _ _)
   | (with_reducible exact impl_ringNew_1.mono _ _ _ _ _)
   | (with_reducible exact LeO.refl _)
   | (with_reducible exact LeO.none _)
   | (with_reducible refine LeO.ite ?_ ?_)
   | (with_reducible refine LeO.bind ?_ (fun _=>?_))
   | exact ih0 _ _ _ _
   | exact ih1 _ _ _ _ _
   | exact ih2 _ _ _ _ _ _
   | exact impl_ringNew_1.mono _ _ _ _ _
   | exact LeO.none _
   | refine LeO.ite ?_ ?_
   | refine LeO.bind ?_ (fun _=>?_)
  ·intro y0 y1 y2 y3 y4 y5
   unfold slices_insertionSortCmpFunc_impl_Token_impl_ringNew_1.j2
   repeat' first
   | (with_reducible exact ih0 _ _ _ _)
   | (with_reducible exact ih1 _ _ _ _ _)
   | (with_reducible exact ih2 _ _ _ _ _ _)
   | (with_reducible exact impl_ringNew_1.mono _ _ _ _ _)
   | (with_reducible exact LeO.refl _)
   | (with_reducible exact LeO.none _)
   | (with_reducible refine LeO.ite ?_ ?_)
   | (with_reducible refine LeO.bind ?_ (fun _=>?_))
   | exact ih0 _ _ _ _
   | exact ih1 _ _ _ _ _
   | exact ih2 _ _ _ _ _ _
   | exact impl_ringNew_1.mono _ _ _ _ _
   | exact LeO.none _
   | refine LeO.ite ?_ ?_
   | refine LeO.bind ?_ (fun _=>?_)
theorem slices_insertionSortCmpFunc_impl_Token_impl_ringNew_1.mono:∀ a0 a1 a2 k,LeO (slices_insertionSortCmpFunc_impl_Token_impl_ringNew_1.f k a0 a1 a2) (slices_insertionSortCmpFunc_impl_Token_impl_ringNew_1.f (k+1) a0 a1 a2):=by
 intro a0 a1 a2 k
 obtain ⟨ih0,ih1,ih2⟩:=slices_insertionSortCmpFunc_impl_Token_impl_ringNew_1.mono_l k
 unfold slices_insertionSortCmpFunc_impl_Token_impl_ringNew_1.f
 repeat' first
   | (with_reducible exact ih0 _ _ _ _)
   | (with_reducible exact ih1 _ _ _ _ _)
   | (with_reducible exact ih2 _ _ _ _ _ _)
   | (with_reducible exact impl_ringNew_1.mono _ _ _ _ _)
   | (with_reducible exact LeO.refl _)
   | (with_reducible exact LeO.none _)
   | (with_reducible refine LeO.ite ?_ ?_)
   | (with_reducible refine LeO.bind ?_ (fun _=>?_))
   | exact ih0 _ _ _ _
   | exact ih1 _ _ _ _ _
   | exact ih2 _ _ _ _ _ _
   | exact impl_ringNew_1.mono _ _ _ _ _
   | exact LeO.none _
   | refine LeO.ite ?_ ?_
   | refine LeO.bind ?_ (fun _=>?_)
def slices_insertionSortCmpFunc_impl_Token_impl_ringNew_1.T4:Bool × List (List Nat × List Nat):=(true,[([],[]),([],[]),([0,1],[0,1]),([2],[2]),([3],[3]),([3],[3]),([3],[3]),([5,6,3],[3,5,6]),([7,3],[3,7]),([3],[3]),([3],[3]),([10,3],[3,10]),([9,11,3],[3,9,11]),([12,3],[3,12]),([4,8,13,3,3],[3,4,8,13]),([14,3],[3,14]),([3,15],[3,15])])
def slices_insertionSortCmpFunc_impl_Token_impl_ringNew_1.B4:List Nat:=[0,0,3,7,15,15,15,111,239,15,15,1039,3599,7695,16383,32767,65535]
theorem slices_insertionSortCmpFunc_impl_Token_impl_ringNew_1.tab4:rtab .any (opsOf Tryd.f74 4)=slices_insertionSortCmpFunc_impl_Token_impl_ringNew_1.T4:=by kernel_rfl
theorem slices_insertionSortCmpFunc_impl_Token_impl_ringNew_1.bits4:waitsOk slices_insertionSortCmpFunc_impl_Token_impl_ringNew_1.T4.2 slices_insertionSortCmpFunc_impl_Token_impl_ringNew_1.B4=true:=by kernel_rfl
def slices_insertionSortCmpFunc_impl_Token_impl_ringNew_1.T6:Bool × List (List Nat × List Nat):=(true,[([],[]),([],[]),([],[]),([],[]),([3],[3]),([],[]),([],[]),([6],[6]),([5,7],[5,7]),([8],[8]),([],[]),([],[]),([10,11],[10,11]),([12],[12]),([0,1,0,1,5,6,7,8,9,13],[0,1]),([14,9,0,1,5,6,7,8,9,13],[9,14]),([2,4,0,1,2,3,4,5,6,7,8,9,10,11,12,13,14,15],[2,4]),([16,13,15,0,1,2,3,4,5,6,7,8,9,10,11,12,13,14,15],[13,16])])
def slices_insertionSortCmpFunc_impl_Token_impl_ringNew_1.B6:List Nat:=[0,0,0,0,8,0,0,64,224,480,0,0,3072,7168,16355,32739,65535,131071]
theorem slices_insertionSortCmpFunc_impl_Token_impl_ringNew_1.tab6:rtab .any (opsOf Tryd.f74 6)=slices_insertionSortCmpFunc_impl_Token_impl_ringNew_1.T6:=by kernel_rfl
theorem slices_insertionSortCmpFunc_impl_Token_impl_ringNew_1.bits6:waitsOk slices_insertionSortCmpFunc_impl_Token_impl_ringNew_1.T6.2 slices_insertionSortCmpFunc_impl_Token_impl_ringNew_1.B6=true:=by kernel_rfl
abbrev slices_insertionSortCmpFunc_impl_Token_impl_ringNew_1.q0:Array Bool:=#[O,O,O,O,O,O,O,O,O,O,O,O,O,O,O,O,O]
abbrev slices_insertionSortCmpFunc_impl_Token_impl_ringNew_1.q1:Array Bool:=#[I,O,O,O,O,O,O,O,O,O,O,O,O,O,O,O,O]
abbrev slices_insertionSortCmpFunc_impl_Token_impl_ringNew_1.q2:Array Bool:=#[I,I,O,O,O,O,O,O,O,O,O,O,O,O,O,O,O]
abbrev slices_insertionSortCmpFunc_impl_Token_impl_ringNew_1.q3:Array Bool:=#[I,I,I,O,O,O,O,O,O,O,O,O,O,O,O,O,O]
abbrev slices_insertionSortCmpFunc_impl_Token_impl_ringNew_1.q4:Array Bool:=#[I,I,I,I,O,O,O,O,O,O,O,O,O,O,O,O,O]
abbrev slices_insertionSortCmpFunc_impl_Token_impl_ringNew_1.q5:Array Bool:=#[I,I,I,I,I,O,O,O,O,O,O,O,O,O,O,O,O]
abbrev slices_insertionSortCmpFunc_impl_Token_impl_ringNew_1.q6:Array Bool:=#[I,I,I,I,I,I,O,O,O,O,O,O,O,O,O,O,O]
abbrev slices_insertionSortCmpFunc_impl_Token_impl_ringNew_1.q7:Array Bool:=#[I,I,I,I,I,I,I,O,O,O,O,O,O,O,O,O,O]
abbrev slices_insertionSortCmpFunc_impl_Token_impl_ringNew_1.q8:Array Bool:=#[I,I,I,I,I,I,I,I,O,O,O,O,O,O,O,O,O]
abbrev slices_insertionSortCmpFunc_impl_Token_impl_ringNew_1.q9:Array Bool:=#[I,I,I,I,I,I,I,I,I,I,I,I,I,O,O,O,O]
abbrev slices_insertionSortCmpFunc_impl_Token_impl_ringNew_1.q10:Array Bool:=#[I,I,I,I,I,I,I,I,I,I,I,I,I,I,O,O,O]
abbrev slices_insertionSortCmpFunc_impl_Token_impl_ringNew_1.q11:Array Bool:=#[I,I,I,I,I,I,I,I,I,I,I,I,I,I,I,O,O]
abbrev slices_insertionSortCmpFunc_impl_Token_impl_ringNew_1.q12:Array Bool:=#[I,I,I,I,I,I,I,I,I,I,I,I,I,I,I,I,O]
abbrev slices_insertionSortCmpFunc_impl_Token_impl_ringNew_1.q13:Array Bool:=#[I,I,I,I,I,I,I,I,I,I,I,I,I,I,I,I,I]
set_option maxHeartbeats 8000000 in
set_option maxRecDepth 100000 in
theorem slices_insertionSortCmpFunc_impl_Token_impl_ringNew_1.calls (k:Nat) (P0_:Nat→Prop) (u9000_:Value) (l0:List (S59)) (a1:Int) (a2:Int)  (r:List (S59)) (w0 w:World) (hB:Below w0.heap.size w0 w) (ho0:Kd.R k59 59 w w0.heap.size P0_ u9000_ l0) (h:slices_insertionSortCmpFunc_impl_Token_impl_ringNew_1.f k l0 a1 a2=some r) :
  Calls Tryd.prog 74 #[u9000_,.int .i64 a1,.int .i64 a2,.func (.func 61) #[] #[]] w fun e w'=>e = .returned (.tuple #[])∧Kd.R k59 59 w' w0.heap.size (fun k_=>(P0_ k_∨w.heap.size≤k_)) u9000_ r∧Below w0.heap.size w0 w'∧Kept w w' (fun k_=>P0_ k_):=by
 have hu59:=Tryd.underlying59
 have HO0:=Aside0.mk (show Kd.R k59 59 w w0.heap.size (fun k_=>(P0_ k_∨w.heap.size≤k_)) u9000_ l0 from Kd.R_mono ho0 (fun k_ hk=>(.inl hk)))
 have HK:=Aside0.mk (Kept.refl w (fun k_=>P0_ k_))
 have HW0:=Aside0.mk hB.size
 have HB:=Aside0.mk hB
 clear hB
 have H:(slices_insertionSortCmpFunc_impl_Token_impl_ringNew_1.l0 k l0 a1 a2 (wrap64 (a1+1)))=some r:=h
 clear h
 have H':=Aside0.mk H
 clear H
 go_enter Tryd.func74,Tryd.ntmps74
 go_wp2
 go_loopg [8] k (fun kq v8 w'=>∃ (x0_1:List (S59)) (x8_1:Int),v8 = .int .i64 x8_1∧Aside0 (slices_insertionSortCmpFunc_impl_Token_impl_ringNew_1.l0 kq x0_1 a1 a2 x8_1=some r)∧Aside0 (kq≤k)∧Aside0 (Kd.R k59 59 w' w0.heap.size (fun k_=>(P0_ k_∨w.heap.size≤k_)) u9000_ x0_1)∧Aside0 (Kept w w' (fun k_=>P0_ k_))∧Aside0 (Below w0.heap.size w0 w'))
 case atStart=>exact ⟨(l0),(wrap64 (a1+1)),(z1_),H',⟨Nat.le_refl _⟩,⟨z2_ HO0.out⟩,⟨z9_ HK.out⟩,⟨z6_ HB.out⟩⟩
 case round =>
  clear H'
  try clear p2
  obtain ⟨x0_1,x8_1,rfl,HA,HK1,HO_0,HK,HB⟩:=hrel
  cases gk with
  | zero=>exact absurd HA.out (by simp [slices_insertionSortCmpFunc_impl_Token_impl_ringNew_1.l0])
  | succ k1 =>
   have H:=HA.out
   clear HA
   simp only [slices_insertionSortCmpFunc_impl_Token_impl_ringNew_1.l0] at H
   by_cases c5:x8_1<a2
   ·rw [if_pos c5] at H
    have c5b0:decide (x8_1<a2)=true:=decide_eq_true c5
    clear c5
    have H':=Aside0.mk H
    clear H
    go_wp2
    go_loopg [9] k1 (fun kq v9 w'=>∃ (x0_2:List (S59)) (x9_2:Int),v9 = .int .i64 x9_2∧Aside0 (slices_insertionSortCmpFunc_impl_Token_impl_ringNew_1.l1 kq x0_2 a1 a2 x8_1 x9_2=some r)∧Aside0 (kq≤k1)∧Aside0 (Kd.R k59 59 w' w0.heap.size (fun k_=>(P0_ k_∨w.heap.size≤k_)) u9000_ x0_2)∧Aside0 (Kept w w' (fun k_=>P0_ k_))∧Aside0 (Below w0.heap.size w0 w'))
    case atStart=>exact ⟨(x0_1),(x8_1),(z1_),H',⟨Nat.le_refl _⟩,⟨z2_ HO_0.out⟩,⟨z9_ HK.out⟩,⟨z6_ HB.out⟩⟩
    case round =>
     clear H'
     try clear p2
     try clear c5
     try clear c5b0
     try clear p2
     obtain ⟨x0_2,x9_2,rfl,HA,HK2,HO_0,HK,HB⟩:=hrel
     cases gk with
     | zero=>exact absurd HA.out (by simp [slices_insertionSortCmpFunc_impl_Token_impl_ringNew_1.l1])
     | succ k2 =>
      have H:=HA.out
      clear HA
      simp only [slices_insertionSortCmpFunc_impl_Token_impl_ringNew_1.l1] at H
      have HC6:=Aside0.mk H
      clear H
      go_upto_region 4 with (fail)
      go_cut [34] (fun v34 wc=>∃ (kq:Nat) (x34_5:Bool),v34 = .bool x34_5∧Aside0 (slices_insertionSortCmpFunc_impl_Token_impl_ringNew_1.j2 kq x0_2 a1 a2 x8_1 x9_2 x34_5=some r)∧Aside0 (kq≤k2)∧Aside0 (Kd.R k59 59 wc w0.heap.size (fun k_=>(P0_ k_∨w.heap.size≤k_)) u9000_ x0_2)∧Aside0 (Kept w wc (fun k_=>P0_ k_))∧Aside0 (Below w0.heap.size w0 wc))
      case first =>
       have H:=HC6.out
       clear HC6
       by_cases c7:x9_2>a1
       ·rw [if_pos c7] at H
        have c7b0:decide (a1<x9_2)=true:=decide_eq_true c7
        clear c7
        (first | rw [c7b0] | (simp only [i64_w,i32_w];rw [c7b0]) | skip)
        by_cases c8:0≤x9_2
        ·rw [if_pos c8] at H
         have c8b0:decide (0≤x9_2)=true:=decide_eq_true c8
         clear c8
         by_cases c9:x9_2<(x0_2.length:Int)
         ·rw [if_pos c9] at H
          have c9b0:decide (x9_2<(x0_2.length:Int))=true:=decide_eq_true c9
          clear c9
          obtain ⟨ji10,hji10⟩:∃ j_:Int,(wrap64 (x9_2-1))=j_:=⟨_,rfl⟩
          replace H:(if 0≤(ji10) then (if (ji10)<(x0_2.length:Int) then ((impl_ringNew_1.f k2 ((rd_T59 x0_2 x9_2).f0) ((rd_T59 x0_2 x9_2).f1) ((rd_T59 x0_2 (ji10)).f0) ((rd_T59 x0_2 (ji10)).f1)).bind fun t268=>(slices_insertionSortCmpFunc_impl_Token_impl_ringNew_1.j2 k2 x0_2 a1 a2 x8_1 x9_2 (decide (t268<0)))) else (none)) else (none))=some r:=by first | (rw [hji10] at H;exact H) | (simp only [hji10] at H ⊢;exact H)
          have hji10w:(IntKind.i64.wrap (x9_2-1))=ji10:=(i64_w _).trans hji10
          by_cases c11:0≤(ji10)
          ·rw [if_pos c11] at H
           have c11b0:decide (0≤(ji10))=true:=decide_eq_true c11
           clear c11
           by_cases c12:(ji10)<(x0_2.length:Int)
           ·rw [if_pos c12] at H
            have c12b0:decide ((ji10)<(x0_2.length:Int))=true:=decide_eq_true c12
            clear c12
            replace H:=Option.bind_eq_some_iff.mp H
            obtain ⟨t268,A130,H⟩:=H
            replace H:(slices_insertionSortCmpFunc_impl_Token_impl_ringNew_1.j2 k2 x0_2 a1 a2 x8_1 x9_2 (decide (t268<0)))=some r:=H
            have A13:=Aside0.mk A130
            clear A130
            have H':=Aside0.mk H
            clear H
            try go_wp2
            refine as3_ (Kd.R_drew HO_0.out) (Kept.drew HK.out) (below_drew1 HB.out) ?_
            clear HO_0 HK HB
            intro HO_0 HK HB
            obtain ⟨Ao15,co15,eo15⟩:=Kd.R_slice HO_0.out
            (first | subst eo15 | (injection eo15 with f1_ f2_ f3_;have f4_:=f1_.symm;have f5_:=f3_.symm;clear f1_ f2_ f3_;subst f4_;subst f5_))
            have p266:0≤(x9_2:Int):=of_decide_eq_true (z0_)
            have q266:x9_2<(x0_2.length:Int):=of_decide_eq_true (z0_)
            obtain ⟨ad266,e266,hx266_0,hx266_1⟩:=at_T59 (Kd.R_reads' HO_0.out).2.2 x9_2 p266 q266
            cases e266
            replace p266:=eq_true p266
            replace q266:=eq_true q266
            have p267:0≤((ji10):Int):=of_decide_eq_true (z0_)
            have q267:(ji10)<(x0_2.length:Int):=of_decide_eq_true (z0_)
            obtain ⟨ad267,e267,hx267_0,hx267_1⟩:=at_T59 (Kd.R_reads' HO_0.out).2.2 (ji10) p267 q267
            obtain rfl:ad266=ad267:=(by injection e267)
            replace p267:=eq_true p267
            replace q267:=eq_true q267
            refine start_ (n:=17) (S:=fun w'=>w'.cell? (ad266.add ((x9_2).toNat*2))=some (.int .i64 ((rd_T59 x0_2 x9_2).f0))∧w'.cell? ⟨(ad266.add ((x9_2).toNat*2)).block,(ad266.add ((x9_2).toNat*2)).off+1,none⟩=some (.int .i64 ((rd_T59 x0_2 x9_2).f1))∧w'.cell? (ad266.add (((ji10)).toNat*2))=some (.int .i64 ((rd_T59 x0_2 (ji10)).f0))∧w'.cell? ⟨(ad266.add (((ji10)).toNat*2)).block,(ad266.add (((ji10)).toNat*2)).off+1,none⟩=some (.int .i64 ((rd_T59 x0_2 (ji10)).f1))) (ds:=[]) slices_insertionSortCmpFunc_impl_Token_impl_ringNew_1.q0 (by kernel_rfl) rfl rfl ⟨hx266_0,hx266_1,hx267_0,hx267_1⟩ (fun hHeld=>?_);refine with_tabW slices_insertionSortCmpFunc_impl_Token_impl_ringNew_1.tab4 slices_insertionSortCmpFunc_impl_Token_impl_ringNew_1.bits4 (fun HT_ HW_=>?_)
            generalize wr.drew=w14 at HO_0 HK HB hx266_0 hx266_1 hx267_0 hx267_1 hHeld ⊢
            refine pu_ 0 18 slices_insertionSortCmpFunc_impl_Token_impl_ringNew_1.q1 HT_.out ?_
            refine pu_ 1 19 slices_insertionSortCmpFunc_impl_Token_impl_ringNew_1.q2 HT_.out ?_
            refine pu_ 2 20 slices_insertionSortCmpFunc_impl_Token_impl_ringNew_1.q3 HT_.out ?_
            refine pu_ 3 21 slices_insertionSortCmpFunc_impl_Token_impl_ringNew_1.q4 HT_.out ?_
            refine pu_ 4 22 slices_insertionSortCmpFunc_impl_Token_impl_ringNew_1.q5 HT_.out ?_
            refine pu_ 5 23 slices_insertionSortCmpFunc_impl_Token_impl_ringNew_1.q6 HT_.out ?_
            refine pu_ 6 24 slices_insertionSortCmpFunc_impl_Token_impl_ringNew_1.q7 HT_.out ?_
            refine pu_ 7 25 slices_insertionSortCmpFunc_impl_Token_impl_ringNew_1.q8 HT_.out ?_
            refine pu_ 9 27 #[I,I,I,I,I,I,I,I,O,I,O,O,O,O,O,O,O] HT_.out ?_
            refine pu_ 10 28 #[I,I,I,I,I,I,I,I,O,I,I,O,O,O,O,O,O] HT_.out ?_
            refine pu_ 11 29 #[I,I,I,I,I,I,I,I,O,I,I,I,O,O,O,O,O] HT_.out ?_
            refine pu_ 12 30 #[I,I,I,I,I,I,I,I,O,I,I,I,I,O,O,O,O] HT_.out ?_
            refine tk4_ 8 26 slices_insertionSortCmpFunc_impl_Token_impl_ringNew_1.q9 HT_.out HW_.out hHeld ?_
            refine tk4_ 13 31 slices_insertionSortCmpFunc_impl_Token_impl_ringNew_1.q10 HT_.out HW_.out hHeld ?_
            refine o1_ 14 32 slices_insertionSortCmpFunc_impl_Token_impl_ringNew_1.q11 HT_.out (fun K hK=>?_)
            refine goesD_ Tryd.func61 (by kernel_rfl) rfl #[.agg #[.int .i64 ((rd_T59 x0_2 x9_2).f0),.int .i64 ((rd_T59 x0_2 x9_2).f1)],.agg #[.int .i64 ((rd_T59 x0_2 (ji10)).f0),.int .i64 ((rd_T59 x0_2 (ji10)).f1)]] (by rfl) rfl rfl (by rfl) (by (try simp only [List.map_toArray,List.map_cons,List.map_nil]);first | done | (simp only [hji10];rfl) | rfl | (simp only [List.length_drop,List.length_take];rfl)) ?_
            with_reducible refine (impl_ringNew_1.calls k2 ((rd_T59 x0_2 x9_2).f0) ((rd_T59 x0_2 x9_2).f1) ((rd_T59 x0_2 (ji10)).f0) ((rd_T59 x0_2 (ji10)).f1) t268 _ A13.out).mono ?_
            rintro e w16 ⟨rfl,hb⟩
            have HS0_:=(hb.cell (World.block_lt_of_cell? _ _ (hHeld.1))).trans (hHeld.1)
            have HS1_:=(hb.cell (World.block_lt_of_cell? _ _ (hHeld.2.1))).trans (hHeld.2.1)
            have HS2_:=(hb.cell (World.block_lt_of_cell? _ _ (hHeld.2.2.1))).trans (hHeld.2.2.1)
            have HS3_:=(hb.cell (World.block_lt_of_cell? _ _ (hHeld.2.2.2))).trans (hHeld.2.2.2)
            refine ⟨_,rfl,?_⟩
            refine as3_ (Kd.R_below (z2_ HO_0.out) hb) (Kept.below (S:=(fun k_=>P0_ k_)) (z9_ HK.out) hb) (below_step (z6_ HB.out) hb) ?_
            clear HO_0 HK HB
            intro HO_0 HK HB
            (try clear hb)
            refine hK.out _ _ ⟨HS0_,HS1_,HS2_,HS3_⟩ (fun hHeld=>?_)
            clear hK K
            refine nm_ 32 ?_
            refine pu_ 15 33 slices_insertionSortCmpFunc_impl_Token_impl_ringNew_1.q12 HT_.out ?_
            refine pu_ 16 34 slices_insertionSortCmpFunc_impl_Token_impl_ringNew_1.q13 HT_.out ?_
            refine done_ (done_of HT_.out (by kernel_rfl)) ?_
            try go_wp2
            go_meet
            case rel=>exact ⟨_,(decide (t268<0)),(z1_),H',⟨z29_ HK1.out HK2.out⟩,⟨z2_ HO_0.out⟩,⟨z9_ HK.out⟩,⟨z6_ HB.out⟩⟩
           ·rw [if_neg c12] at H
            exact absurd H (by simp)
          ·rw [if_neg c11] at H
           exact absurd H (by simp)
         ·rw [if_neg c9] at H
          exact absurd H (by simp)
        ·rw [if_neg c8] at H
         exact absurd H (by simp)
       ·rw [if_neg c7] at H
        have c7b0:decide (a1<x9_2)=false:=decide_eq_false c7
        clear c7
        (first | rw [c7b0] | (simp only [i64_w,i32_w];rw [c7b0]) | skip)
        have H':=Aside0.mk H
        clear H
        try go_wp2
        refine as3_ (Kd.R_drew HO_0.out) (Kept.drew HK.out) (below_drew1 HB.out) ?_
        clear HO_0 HK HB
        intro HO_0 HK HB
        refine start_ (n:=17) (S:=fun w'=>True) (ds:=[]) slices_insertionSortCmpFunc_impl_Token_impl_ringNew_1.q0 (by kernel_rfl) rfl rfl trivial (fun hHeld=>?_);refine with_tabW slices_insertionSortCmpFunc_impl_Token_impl_ringNew_1.tab4 slices_insertionSortCmpFunc_impl_Token_impl_ringNew_1.bits4 (fun HT_ HW_=>?_)
        generalize wr.drew=w17 at HO_0 HK HB hHeld ⊢
        refine pu_ 0 18 slices_insertionSortCmpFunc_impl_Token_impl_ringNew_1.q1 HT_.out ?_
        refine pu_ 1 19 slices_insertionSortCmpFunc_impl_Token_impl_ringNew_1.q2 HT_.out ?_
        refine pu_ 2 20 slices_insertionSortCmpFunc_impl_Token_impl_ringNew_1.q3 HT_.out ?_
        refine pu_ 3 21 slices_insertionSortCmpFunc_impl_Token_impl_ringNew_1.q4 HT_.out ?_
        refine pn_ 4 22 slices_insertionSortCmpFunc_impl_Token_impl_ringNew_1.q5 HT_.out ?_
        refine pn_ 5 23 slices_insertionSortCmpFunc_impl_Token_impl_ringNew_1.q6 HT_.out ?_
        refine pn_ 6 24 slices_insertionSortCmpFunc_impl_Token_impl_ringNew_1.q7 HT_.out ?_
        refine pn_ 7 25 slices_insertionSortCmpFunc_impl_Token_impl_ringNew_1.q8 HT_.out ?_
        refine pn_ 8 26 #[I,I,I,I,I,I,I,I,I,O,O,O,O,O,O,O,O] HT_.out ?_
        refine pn_ 9 27 #[I,I,I,I,I,I,I,I,I,I,O,O,O,O,O,O,O] HT_.out ?_
        refine pn_ 10 28 #[I,I,I,I,I,I,I,I,I,I,I,O,O,O,O,O,O] HT_.out ?_
        refine pn_ 11 29 #[I,I,I,I,I,I,I,I,I,I,I,I,O,O,O,O,O] HT_.out ?_
        refine pn_ 12 30 slices_insertionSortCmpFunc_impl_Token_impl_ringNew_1.q9 HT_.out ?_
        refine pn_ 13 31 slices_insertionSortCmpFunc_impl_Token_impl_ringNew_1.q10 HT_.out ?_
        refine pn_ 14 32 slices_insertionSortCmpFunc_impl_Token_impl_ringNew_1.q11 HT_.out ?_
        refine pn_ 15 33 slices_insertionSortCmpFunc_impl_Token_impl_ringNew_1.q12 HT_.out ?_
        refine pu_ 16 34 slices_insertionSortCmpFunc_impl_Token_impl_ringNew_1.q13 HT_.out ?_
        refine done_ (done_of HT_.out (by kernel_rfl)) ?_
        try go_wp2
        go_meet
        case rel=>exact ⟨_,(false),(z1_),H',⟨z29_ HK1.out HK2.out⟩,⟨z2_ HO_0.out⟩,⟨z9_ HK.out⟩,⟨z6_ HB.out⟩⟩
      case rest =>
       clear HC6
       try clear c1
       try clear p2
       try clear q2
       try clear hx2
       try clear c5
       try clear c5b0
       try clear c6
       try clear p6
       try clear c7
       try clear c7b0
       try clear c8
       try clear c8b0
       try clear c9
       try clear c9b0
       try clear c11
       try clear c11b0
       try clear c12
       try clear c12b0
       try clear hx266_0
       try clear hx266_1
       try clear hx267_0
       try clear hx267_1
       try clear p2
       try clear p266
       try clear p267
       try clear q266
       try clear q267
       obtain ⟨kq,x34_5,rfl,HA,HJ5,HO_0,HK,HB⟩:=hcut
       cases kq with
       | zero=>exact absurd HA.out (by simp [slices_insertionSortCmpFunc_impl_Token_impl_ringNew_1.j2])
       | succ kj5 =>
        have H:=HA.out
        clear HA
        simp only [slices_insertionSortCmpFunc_impl_Token_impl_ringNew_1.j2] at H
        by_cases c18:x34_5=true
        ·subst c18
         have H1:(if 0≤(wrap64 (x9_2-1)) then (if (wrap64 (x9_2-1))<(x0_2.length:Int) then (if 0≤x9_2 then (if x9_2<(x0_2.length:Int) then (slices_insertionSortCmpFunc_impl_Token_impl_ringNew_1.l1 kj5 ((x0_2.set (x9_2:Int).toNat (⟨(rd_T59 x0_2 (wrap64 (x9_2-1))).f0,(rd_T59 x0_2 (wrap64 (x9_2-1))).f1⟩:S59)).set ((wrap64 (x9_2-1)):Int).toNat (⟨(rd_T59 x0_2 x9_2).f0,(rd_T59 x0_2 x9_2).f1⟩:S59)) a1 a2 x8_1 (wrap64 (x9_2-1))) else (none)) else (none)) else (none)) else (none))=some r:=by rw [if_pos rfl] at H;exact H
         clear H
         have H:=H1
         clear H1
         obtain ⟨ji19,hji19⟩:∃ j_:Int,(wrap64 (x9_2-1))=j_:=⟨_,rfl⟩
         replace H:(if 0≤(ji19) then (if (ji19)<(x0_2.length:Int) then (if 0≤x9_2 then (if x9_2<(x0_2.length:Int) then (slices_insertionSortCmpFunc_impl_Token_impl_ringNew_1.l1 kj5 ((x0_2.set (x9_2:Int).toNat (⟨(rd_T59 x0_2 (ji19)).f0,(rd_T59 x0_2 (ji19)).f1⟩:S59)).set ((ji19):Int).toNat (⟨(rd_T59 x0_2 x9_2).f0,(rd_T59 x0_2 x9_2).f1⟩:S59)) a1 a2 x8_1 ji19) else (none)) else (none)) else (none)) else (none))=some r:=by first | (rw [hji19] at H;exact H) | (simp only [hji19] at H ⊢;exact H)
         have hji19w:(IntKind.i64.wrap (x9_2-1))=ji19:=(i64_w _).trans hji19
         by_cases c20:0≤(ji19)
         ·rw [if_pos c20] at H
          have c20b0:decide (0≤(ji19))=true:=decide_eq_true c20
          clear c20
          by_cases c21:(ji19)<(x0_2.length:Int)
          ·rw [if_pos c21] at H
           have c21b0:decide ((ji19)<(x0_2.length:Int))=true:=decide_eq_true c21
           clear c21
           by_cases c22:0≤x9_2
           ·rw [if_pos c22] at H
            have c22b0:decide (0≤x9_2)=true:=decide_eq_true c22
            clear c22
            by_cases c23:x9_2<(x0_2.length:Int)
            ·rw [if_pos c23] at H
             have c23b0:decide (x9_2<(x0_2.length:Int))=true:=decide_eq_true c23
             clear c23
             obtain ⟨y271,hy271⟩:∃ y_:List (S59),y_=(x0_2.set (x9_2:Int).toNat (⟨(rd_T59 x0_2 (ji19)).f0,(rd_T59 x0_2 (ji19)).f1⟩:S59)):=⟨_,rfl⟩
             replace H:(slices_insertionSortCmpFunc_impl_Token_impl_ringNew_1.l1 kj5 (y271.set ((ji19):Int).toNat (⟨(rd_T59 x0_2 x9_2).f0,(rd_T59 x0_2 x9_2).f1⟩:S59)) a1 a2 x8_1 ji19)=some r:=by first | (rw [hy271];with_reducible exact H) | (have H2_:=(Option.bind_some _ _).symm.trans H;rw [hy271];with_reducible exact H2_) | (have H2_:=(Option.bind_some _ _).symm.trans H;with_reducible exact H2_) | with_reducible exact H | (rw [hy271];exact H) | exact H
             have Ny271:=Aside0.mk hy271
             clear hy271
             obtain ⟨y272,hy272⟩:∃ y_:List (S59),y_=(y271.set ((ji19):Int).toNat (⟨(rd_T59 x0_2 x9_2).f0,(rd_T59 x0_2 x9_2).f1⟩:S59)):=⟨_,rfl⟩
             replace H:(slices_insertionSortCmpFunc_impl_Token_impl_ringNew_1.l1 kj5 y272 a1 a2 x8_1 ji19)=some r:=by first | (rw [hy272];with_reducible exact H) | (have H2_:=(Option.bind_some _ _).symm.trans H;rw [hy272];with_reducible exact H2_) | (have H2_:=(Option.bind_some _ _).symm.trans H;with_reducible exact H2_) | with_reducible exact H | (rw [hy272];exact H) | exact H
             have Ny272:=Aside0.mk hy272
             clear hy272
             have H':=Aside0.mk H
             clear H
             try go_wp2
             refine as3_ (Kd.R_drew HO_0.out) (Kept.drew HK.out) (below_drew1 HB.out) ?_
             clear HO_0 HK HB
             intro HO_0 HK HB
             obtain ⟨Ao27,co27,eo27⟩:=Kd.R_slice HO_0.out
             (first | subst eo27 | (injection eo27 with f1_ f2_ f3_;have f4_:=f1_.symm;have f5_:=f3_.symm;clear f1_ f2_ f3_;subst f4_;subst f5_))
             have p269:0≤((ji19):Int):=of_decide_eq_true (z0_)
             have q269:(ji19)<(x0_2.length:Int):=of_decide_eq_true (z0_)
             obtain ⟨ad269,e269,hx269_0,hx269_1⟩:=at_T59 (Kd.R_reads' HO_0.out).2.2 (ji19) p269 q269
             cases e269
             replace p269:=eq_true p269
             replace q269:=eq_true q269
             have p270:0≤(x9_2:Int):=of_decide_eq_true (z0_)
             have q270:x9_2<(x0_2.length:Int):=of_decide_eq_true (z0_)
             obtain ⟨ad270,e270,hx270_0,hx270_1⟩:=at_T59 (Kd.R_reads' HO_0.out).2.2 x9_2 p270 q270
             obtain rfl:ad269=ad270:=(by injection e270)
             replace p270:=eq_true p270
             replace q270:=eq_true q270
             have p24:0≤(x9_2:Int):=of_decide_eq_true (z0_)
             have q24:(x9_2:Int)<((x0_2.length:Int):Int):=of_decide_eq_true (z0_)
             obtain ⟨go24,co24,eo24,gb24,gl24,cl24,HG24⟩:=Kd.R_form HO_0.out (by omega)
             (first | cases eo24 | (injection eo24 with ea_ en_ ec_;(first | subst ea_ | (injection ea_ with ea_;subst ea_));subst ec_;clear en_))
             have GB24:=Aside0.mk gb24
             have GG24:=Aside0.mk HG24
             clear gb24 gl24 HG24
             have HMgo24:=Aside0.mk (show (P0_ go24∨w.heap.size≤go24) from (HO_0.out.1 _ rfl))
             (first | simp only [add_plain] at hx269_0 | skip)
             (first | simp only [add_plain] at hx269_1 | skip)
             (first | simp only [add_plain] at hx270_0 | skip)
             (first | simp only [add_plain] at hx270_1 | skip)
             obtain ⟨ce24,hcl24,hM24,hcc24,hfr24⟩:=Kd.R_elem HO_0.out z59 (x9_2:Int) p24 q24
             obtain rfl:=k59_openM hM24
             have hx24_0:World.cell? _ ⟨go24,(x9_2:Int).toNat*2,none⟩=some (.int .i64 ((rd_T59 x0_2 x9_2).f0)):=hcc24 0 _ rfl
             have hx24_1:World.cell? _ ⟨go24,(x9_2:Int).toNat*2+1,none⟩=some (.int .i64 ((rd_T59 x0_2 x9_2).f1)):=hcc24 1 _ rfl
             have hf24_0:World.frozen? _ ⟨go24,(x9_2:Int).toNat*2,none⟩=false:=hfr24 0
             have hf24_1:World.frozen? _ ⟨go24,(x9_2:Int).toNat*2+1,none⟩=false:=hfr24 1
             clear hcl24 hcc24 hfr24 hM24
             replace p24:=eq_true p24
             replace q24:=eq_true q24
             obtain ⟨ce28,hcl28,hM28,hcc28,hfr28⟩:=Kd.R_elem HO_0.out z59 (x9_2:Int) (of_decide_eq_true (z0_)) (by have h_:(x9_2:Int)<((x0_2.length:Int):Int):=of_decide_eq_true (by first | (with_reducible assumption) | assumption);first | exact h_ | (have e_:=(Kd.R_reads' HO_0.out).1;omega) | simpa using h_)
             obtain rfl:=k59_openM hM28
             have HP28:=(Kd.R_seg HO_0.out (x9_2:Int) (of_decide_eq_true (z0_)) (by have h_:(x9_2:Int)<((x0_2.length:Int):Int):=of_decide_eq_true (by first | (with_reducible assumption) | assumption);first | exact h_ | (have e_:=(Kd.R_reads' HO_0.out).1;omega) | simpa using h_) (seg:=[.int .i64 ((rd_T59 x0_2 (ji19)).f0),.int .i64 ((rd_T59 x0_2 (ji19)).f1)]) (j:=0) hcl28 hcc28 (show 2≤2 from by decide) (x':=(⟨(rd_T59 x0_2 (ji19)).f0,(rd_T59 x0_2 (ji19)).f1⟩:S59)) (k59_mkM _ _ _ (⟨(rd_T59 x0_2 (ji19)).f0,(rd_T59 x0_2 (ji19)).f1⟩:S59) ) (fun _ hk=>hk)).1
             rw [← Ny271.out] at HP28
             have HQ28:=Aside0.mk HP28
             clear hcl28 hcc28 hfr28 hM28 HP28
             have p25:0≤((ji19):Int):=of_decide_eq_true (z0_)
             have q25:((ji19):Int)<((x0_2.length:Int):Int):=of_decide_eq_true (z0_)
             obtain ⟨ce25,hcl25,hM25,hcc25,hfr25⟩:=Kd.R_elem HQ28.out z59 ((ji19):Int) p25 q25
             obtain rfl:=k59_openM hM25
             have hx25_0:World.cell? _ ⟨go24,((ji19):Int).toNat*2,none⟩=some (.int .i64 ((rd_T59 y271 (ji19)).f0)):=hcc25 0 _ rfl
             have hx25_1:World.cell? _ ⟨go24,((ji19):Int).toNat*2+1,none⟩=some (.int .i64 ((rd_T59 y271 (ji19)).f1)):=hcc25 1 _ rfl
             have hf25_0:World.frozen? _ ⟨go24,((ji19):Int).toNat*2,none⟩=false:=hfr25 0
             have hf25_1:World.frozen? _ ⟨go24,((ji19):Int).toNat*2+1,none⟩=false:=hfr25 1
             clear hcl25 hcc25 hfr25 hM25
             replace p25:=eq_true p25
             replace q25:=eq_true q25
             obtain ⟨ce29,hcl29,hM29,hcc29,hfr29⟩:=Kd.R_elem HQ28.out z59 ((ji19):Int) (of_decide_eq_true (z0_)) (by have h_:((ji19):Int)<((x0_2.length:Int):Int):=of_decide_eq_true (by first | (with_reducible assumption) | assumption);first | exact h_ | (have e_:=(Kd.R_reads' HO_0.out).1;omega) | simpa using h_)
             obtain rfl:=k59_openM hM29
             have HP29:=(Kd.R_seg HQ28.out ((ji19):Int) (of_decide_eq_true (z0_)) (by have h_:((ji19):Int)<((x0_2.length:Int):Int):=of_decide_eq_true (by first | (with_reducible assumption) | assumption);first | exact h_ | (have e_:=(Kd.R_reads' HO_0.out).1;omega) | simpa using h_) (seg:=[.int .i64 ((rd_T59 x0_2 x9_2).f0),.int .i64 ((rd_T59 x0_2 x9_2).f1)]) (j:=0) hcl29 hcc29 (show 2≤2 from by decide) (x':=(⟨(rd_T59 x0_2 x9_2).f0,(rd_T59 x0_2 x9_2).f1⟩:S59)) (k59_mkM _ _ _ (⟨(rd_T59 x0_2 x9_2).f0,(rd_T59 x0_2 x9_2).f1⟩:S59) ) (fun _ hk=>hk)).1
             rw [← Ny272.out] at HP29
             have HQ29:=Aside0.mk HP29
             clear hcl29 hcc29 hfr29 hM29 HP29
             refine start_ (n:=18) (S:=fun w'=>w'.cell? ⟨go24,((ji19)).toNat*2,none⟩=some (.int .i64 ((rd_T59 x0_2 (ji19)).f0))∧w'.cell? ⟨go24,((ji19)).toNat*2+1,none⟩=some (.int .i64 ((rd_T59 x0_2 (ji19)).f1))∧w'.cell? ⟨go24,((x9_2).toNat*2),none⟩=some (.int .i64 ((rd_T59 x0_2 x9_2).f0))∧w'.cell? ⟨go24,((x9_2).toNat*2)+1,none⟩=some (.int .i64 ((rd_T59 x0_2 x9_2).f1))) (ds:=[15,17]) #[O,O,O,O,O,O,O,O,O,O,O,O,O,O,O,O,O,O] (by kernel_rfl) rfl rfl ⟨hx269_0,hx269_1,hx270_0,hx270_1⟩ (fun hHeld=>?_);refine with_tabW slices_insertionSortCmpFunc_impl_Token_impl_ringNew_1.tab6 slices_insertionSortCmpFunc_impl_Token_impl_ringNew_1.bits6 (fun HT_ HW_=>?_)
             generalize wc.drew=w26 at HO_0 HK HB GG24 HQ28 HQ29 hf24_0 hf24_1 hf25_0 hf25_1 hx24_0 hx24_1 hx25_0 hx25_1 hx269_0 hx269_1 hx270_0 hx270_1 hHeld ⊢
             have hne_:ji19.toNat*2≠x9_2.toNat*2:=by have a_:=of_eq_true p269;have b_:=of_eq_true p270;unfold wrap64 at hji19;omega
             have hz25_0:∀ V,(w26.setCell ⟨go24,(x9_2:Int).toNat*2,none⟩ V).cell? ⟨go24,((ji19):Int).toNat*2,none⟩=some (.int .i64 ((rd_T59 x0_2 (ji19)).f0)):=fun V=>(World.cell?_setCell_other _ _ _ _ (by intro e_;injection e_;omega)).trans hx269_0
             have hz25_1:∀ V,(w26.setCell ⟨go24,(x9_2:Int).toNat*2+1,none⟩ V).cell? ⟨go24,((ji19):Int).toNat*2+1,none⟩=some (.int .i64 ((rd_T59 x0_2 (ji19)).f1)):=fun V=>(World.cell?_setCell_other _ _ _ _ (by intro e_;injection e_;omega)).trans hx269_1
             have hy25_0:w26.frozen? ⟨go24,((ji19):Int).toNat*2,none⟩=false:=by have h_:=hf25_0;first | exact h_ | simpa only [World.frozen?_setCell] using h_ | simpa [World.setCells] using h_
             have hy25_1:w26.frozen? ⟨go24,((ji19):Int).toNat*2+1,none⟩=false:=by have h_:=hf25_1;first | exact h_ | simpa only [World.frozen?_setCell] using h_ | simpa [World.setCells] using h_
             refine pu_ 0 37 #[I,O,O,O,O,O,O,O,O,O,O,O,O,O,O,O,O,O] HT_.out ?_
             refine pu_ 1 38 #[I,I,O,O,O,O,O,O,O,O,O,O,O,O,O,O,O,O] HT_.out ?_
             refine pu_ 2 39 #[I,I,I,O,O,O,O,O,O,O,O,O,O,O,O,O,O,O] HT_.out ?_
             refine pu_ 3 40 #[I,I,I,I,O,O,O,O,O,O,O,O,O,O,O,O,O,O] HT_.out ?_
             refine pu_ 4 41 #[I,I,I,I,I,O,O,O,O,O,O,O,O,O,O,O,O,O] HT_.out ?_
             refine pu_ 5 42 #[I,I,I,I,I,I,O,O,O,O,O,O,O,O,O,O,O,O] HT_.out ?_
             refine pu_ 6 43 #[I,I,I,I,I,I,I,O,O,O,O,O,O,O,O,O,O,O] HT_.out ?_
             refine pu_ 7 44 #[I,I,I,I,I,I,I,I,O,O,O,O,O,O,O,O,O,O] HT_.out ?_
             refine pu_ 8 45 #[I,I,I,I,I,I,I,I,I,O,O,O,O,O,O,O,O,O] HT_.out ?_
             refine pu_ 10 47 #[I,I,I,I,I,I,I,I,I,O,I,O,O,O,O,O,O,O] HT_.out ?_
             refine pu_ 11 48 #[I,I,I,I,I,I,I,I,I,O,I,I,O,O,O,O,O,O] HT_.out ?_
             refine pu_ 12 49 #[I,I,I,I,I,I,I,I,I,O,I,I,I,O,O,O,O,O] HT_.out ?_
             refine tk4_ 9 46 #[I,I,I,I,I,I,I,I,I,I,I,I,I,O,O,O,O,O] HT_.out HW_.out hHeld ?_
             refine tk4_ 13 50 #[I,I,I,I,I,I,I,I,I,I,I,I,I,I,O,O,O,O] HT_.out HW_.out hHeld ?_
             refine pu_ 14 51 #[I,I,I,I,I,I,I,I,I,I,I,I,I,I,I,O,O,O] HT_.out ?_
             refine last_ (i:=15) (N:=none) #[I,I,I,I,I,I,I,I,I,I,I,I,I,I,I,I,O,O] rfl rfl (one_of HT_.out (by kernel_rfl)) (by decide) (fun K hK=>?_)
             refine skip_ (w1:=?_) (by rfl) rfl ?_ ?_
             rotate_left
             ·go_simp
              rfl
             refine hK.out _ _ ?_
             clear hK K
             refine pu_ 16 52 #[I,I,I,I,I,I,I,I,I,I,I,I,I,I,I,I,I,O] HT_.out ?_
             refine last_ (i:=17) (N:=none) #[I,I,I,I,I,I,I,I,I,I,I,I,I,I,I,I,I,I] rfl rfl (one_of HT_.out (by kernel_rfl)) (by decide) (fun K hK=>?_)
             refine skip_ (w1:=?_) (by rfl) rfl ?_ ?_
             rotate_left
             ·go_simp
              rfl
             refine hK.out _ _ ?_
             clear hK K
             refine done_ (done_of HT_.out (by kernel_rfl)) ?_
             try go_wp2
             go_roundg kj5
             case measure=>have:=HK1.out;have:=HK2.out;have:=HJ5.out;omega
             case rel=>exact ⟨(y272),(ji19),(by first | rfl | (simp;done) | (simp only [← hji19] <;> (first | rfl | simp)) | (simp [*];done)),H',⟨by have:=HK1.out;have:=HK2.out;have:=HJ5.out;omega⟩,⟨z2_ HQ29.out⟩,⟨z30_ HK.out HMgo24.out⟩,⟨z31_ HB.out GB24.out⟩⟩
            ·rw [if_neg c23] at H
             exact absurd H (by simp)
           ·rw [if_neg c22] at H
            exact absurd H (by simp)
          ·rw [if_neg c21] at H
           exact absurd H (by simp)
         ·rw [if_neg c20] at H
          exact absurd H (by simp)
        ·replace c18:=Bool.eq_false_iff.mpr c18
         subst c18
         have H1:(slices_insertionSortCmpFunc_impl_Token_impl_ringNew_1.l0 kj5 x0_2 a1 a2 (wrap64 (x8_1+1)))=some r:=by rw [if_neg (show ¬ (false=true) by decide)] at H;exact H
         clear H
         have H:=H1
         clear H1
         have H':=Aside0.mk H
         clear H
         go_wp2
         go_roundg kj5
         case measure=>have:=HK1.out;have:=HK2.out;have:=HJ5.out;omega
         case rel=>exact ⟨(x0_2),(wrap64 (x8_1+1)),(z1_),H',⟨by have:=HK1.out;have:=HK2.out;have:=HJ5.out;omega⟩,⟨z2_ HO_0.out⟩,⟨z9_ HK.out⟩,⟨z6_ HB.out⟩⟩
   ·rw [if_neg c5] at H
    have c5b0:decide (x8_1<a2)=false:=decide_eq_false c5
    clear c5
    obtain rfl:=Option.some.inj H
    go_wp2
    first | go_end0 | ((try simp only [Exit.inBlock,Exit.then]);refine bodyPost_ret (results_none rfl _ _ _) rfl ?_)
    exact ⟨z10_,z2_ HO_0.out,z6_ HB.out,z9_ HK.out⟩


/-! ### slices_heapSortCmpFunc_impl_Token_impl_ringNew_1: function 75 -/
def slices_heapSortCmpFunc_impl_Token_impl_ringNew_1.f (l0:List (S59)) (a1:Int) (a2:Int)  : Option (Unit):=none
set_option maxHeartbeats 8000000 in
set_option maxRecDepth 100000 in
theorem slices_heapSortCmpFunc_impl_Token_impl_ringNew_1.calls (A0:Option Addr) (c0:Nat) (l0:List (S59)) (a1:Int) (a2:Int)  (w:World) (hr0:Kd.C k59 w A0 l0.length l0) (hc0:l0.length≤c0) (h:slices_heapSortCmpFunc_impl_Token_impl_ringNew_1.f l0 a1 a2=some ()) :
  Calls Tryd.prog 75 #[.slice A0 l0.length c0,.int .i64 a1,.int .i64 a2,.func (.func 61) #[] #[]] w fun e w'=>e = .returned (.tuple #[])∧Drawn0 w w':=by
 have HR0:=Aside0.mk hr0
 have HC0:=Aside0.mk hc0
 clear hr0 hc0
 have H:(none)=some ():=h
 clear h
 exact absurd H (by simp)


/-! ### slices_breakPatternsCmpFunc_impl_Token_impl_ringNew_1: function 76 -/
def slices_breakPatternsCmpFunc_impl_Token_impl_ringNew_1.f (l0:List (S59)) (a1:Int) (a2:Int)  : Option (Unit):=none
set_option maxHeartbeats 8000000 in
set_option maxRecDepth 100000 in
theorem slices_breakPatternsCmpFunc_impl_Token_impl_ringNew_1.calls (A0:Option Addr) (c0:Nat) (l0:List (S59)) (a1:Int) (a2:Int)  (w:World) (hr0:Kd.C k59 w A0 l0.length l0) (hc0:l0.length≤c0) (h:slices_breakPatternsCmpFunc_impl_Token_impl_ringNew_1.f l0 a1 a2=some ()) :
  Calls Tryd.prog 76 #[.slice A0 l0.length c0,.int .i64 a1,.int .i64 a2,.func (.func 61) #[] #[]] w fun e w'=>e = .returned (.tuple #[])∧Drawn0 w w':=by
 have HR0:=Aside0.mk hr0
 have HC0:=Aside0.mk hc0
 clear hr0 hc0
 have H:(none)=some ():=h
 clear h
 exact absurd H (by simp)


/-- A state of type 3 at block g of W; what its slices lead to came in by w0. -/
def IsS3 (w0 W:World) (g:Nat) (f0:Int):Prop:=W.heap[g]? = some (.cells #[.int .i64 f0] 3 (0,0))∧w0.heap.size≤g
theorem IsS3.grown {w0 W:World} {g:Nat} {f0:Int} {W1:World} {row:Option Nat} (h:IsS3 w0 W g f0) (hw:W.grownBy W1 row) (hne:some g≠row):IsS3 w0 W1 g f0:=by
 obtain ⟨hb,hg⟩:=h
 exact ⟨blk_grown hb hw hne,hg⟩
theorem IsS3.kept {w0 W:World} {g:Nat} {f0:Int} {W1:World} {S:Nat→Prop} (h:IsS3 w0 W g f0) (hk:Kept W W1 S) (hne:¬ S g):IsS3 w0 W1 g f0:=by
 obtain ⟨hb,hg⟩:=h
 exact ⟨blk_kept hb hk hne,hg⟩
theorem IsS3.below {w0 W:World} {g:Nat} {f0:Int} {W1:World} (h:IsS3 w0 W g f0) (hw:Below W.heap.size W W1):IsS3 w0 W1 g f0:=h.grown (grown_of_below hw none) (by simp)
theorem IsS3.alloc {w0 W:World} {g:Nat} {f0:Int} (h:IsS3 w0 W g f0) (o:Obj):IsS3 w0 (W.alloc o) g f0:=h.below (below_alloc (Below.refl _ _) o)
theorem IsS3.drewN {w0 W:World} {g:Nat} {f0:Int} (h:IsS3 w0 W g f0) (m:Nat):IsS3 w0 (W.drewN m) g f0:=h
theorem IsS3.drew {w0 W:World} {g:Nat} {f0:Int} (h:IsS3 w0 W g f0):IsS3 w0 W.drew g f0:=h
theorem IsS3.apart {w0 W:World} {g:Nat} {f0:Int} {α:Type} {d:Kd α} {e:Nat} {base:Nat} {ok:Nat→Prop} {v:Value} {xs:List α} (h:IsS3 w0 W g f0) (ho:d.R e W base ok v xs) (ht:∀ q,q ∈ e :: d.E→q≠3):d.R e W base (fun k=>ok k∧k≠g) v xs:=by
 obtain ⟨hb,hg⟩:=h
 exact Kd.R_types ho hb ht
theorem IsS3.own_ne {w0 W:World} {g:Nat} {f0:Int} {α:Type} {d:Kd α} {e:Nat} {base:Nat} {ok:Nat→Prop} {v:Value} {xs:List α} (h:IsS3 w0 W g f0) (ho:d.R e W base ok v xs) (ht:e≠3):some g≠v.ownBlock:=by
 obtain ⟨hb,hg⟩:=h
 exact Kd.R_ne ho hb ht
theorem IsS3.ge {w0 W:World} {g:Nat} {f0:Int} (h:IsS3 w0 W g f0):w0.heap.size≤g:=by
 obtain ⟨hb,hg⟩:=h
 exact hg
theorem cellS3_0 {W:World} {g:Nat} {f0:Int} (h:W.heap[g]? = some (.cells #[.int .i64 f0] 3 (0,0))):W.cell? ⟨g,0,none⟩=some (.int .i64 f0):=(blk_cell h 0).trans rfl
theorem IsS3.set_0 {w0 W:World} {g:Nat} {f0:Int} (h:IsS3 w0 W g f0) (x:Int):IsS3 w0 (W.setCell ⟨g,0,none⟩ (.int .i64 x)) g x:=by
 obtain ⟨hb,hg⟩:=h
 exact ⟨by simpa using blk_set hb 0 (.int .i64 x),hg⟩
/-! ### slices_order2CmpFunc_impl_Token_impl_ringNew_1: function 97 -/
def slices_order2CmpFunc_impl_Token_impl_ringNew_1.f (k:Nat) (l0:List (S59)) (a1:Int) (a2:Int) (s3_0:Int)  : Option (Int × Int × Int):=if 0≤a2 then (if a2<(l0.length:Int) then (if 0≤a1 then (if a1<(l0.length:Int) then ((impl_ringNew_1.f k ((rd_T59 l0 a2).f0) ((rd_T59 l0 a2).f1) ((rd_T59 l0 a1).f0) ((rd_T59 l0 a1).f1)).bind fun t275=>(if t275<0 then (some (a2,a1,wrap64 (s3_0+1))) else (some (a1,a2,s3_0)))) else (none)) else (none)) else (none)) else (none)
theorem slices_order2CmpFunc_impl_Token_impl_ringNew_1.mono:∀ a0 a1 a2 a3 k,LeO (slices_order2CmpFunc_impl_Token_impl_ringNew_1.f k a0 a1 a2 a3) (slices_order2CmpFunc_impl_Token_impl_ringNew_1.f (k+1) a0 a1 a2 a3):=by
 intro a0 a1 a2 a3 k
 unfold slices_order2CmpFunc_impl_Token_impl_ringNew_1.f
 repeat' first
   | (with_reducible exact impl_ringNew_1.mono _ _ _ _ _)
   | (with_reducible exact LeO.refl _)
   | (with_reducible exact LeO.none _)
   | (with_reducible refine LeO.ite ?_ ?_)
   | (with_reducible refine LeO.bind ?_ (fun _=>?_))
   | exact impl_ringNew_1.mono _ _ _ _ _
   | exact LeO.none _
   | refine LeO.ite ?_ ?_
   | refine LeO.bind ?_ (fun _=>?_)
def slices_order2CmpFunc_impl_Token_impl_ringNew_1.T1:Bool × List (List Nat × List Nat):=(true,[([],[]),([],[]),([],[]),([1,2],[1,2]),([3],[3]),([],[]),([],[]),([5,6],[5,6]),([7],[7]),([0,4,8],[0,4,8]),([9],[9])])
def slices_order2CmpFunc_impl_Token_impl_ringNew_1.B1:List Nat:=[0,0,0,6,14,0,0,96,224,511,1023]
theorem slices_order2CmpFunc_impl_Token_impl_ringNew_1.tab1:rtab .any (opsOf Tryd.f97 1)=slices_order2CmpFunc_impl_Token_impl_ringNew_1.T1:=by kernel_rfl
theorem slices_order2CmpFunc_impl_Token_impl_ringNew_1.bits1:waitsOk slices_order2CmpFunc_impl_Token_impl_ringNew_1.T1.2 slices_order2CmpFunc_impl_Token_impl_ringNew_1.B1=true:=by kernel_rfl
set_option maxHeartbeats 8000000 in
set_option maxRecDepth 100000 in
theorem slices_order2CmpFunc_impl_Token_impl_ringNew_1.calls (k:Nat) (A0:Option Addr) (c0:Nat) (l0:List (S59)) (a1:Int) (a2:Int) (g:Nat) (s3_0:Int)  (r1:Int) (r2:Int) (r3:Int) (w0 w:World) (hI:IsS3 w0 w g s3_0) (hB:Below w0.heap.size w0 w) (hr0:∀ W_,KeepBut w W_ g none→Kd.C k59 W_ A0 l0.length l0) (hc0:l0.length≤c0) (h:slices_order2CmpFunc_impl_Token_impl_ringNew_1.f k l0 a1 a2 s3_0=some (r1,r2,r3)) :
  Calls Tryd.prog 97 #[.slice A0 l0.length c0,.int .i64 a1,.int .i64 a2,.pointer (some ⟨g,0,none⟩),.func (.func 61) #[] #[]] w fun e w'=>e = .returned (.tuple #[.int .i64 r1,.int .i64 r2])∧IsS3 w0 w' g r3∧Below w0.heap.size w0 w'∧KeepBut w w' g none:=by
 have hu59:=Tryd.underlying59
 have HR0:=Aside0.mk hr0
 have HC0:=Aside0.mk hc0
 clear hr0 hc0
 have HI3:=Aside0.mk hI
 have HK:=Aside0.mk (KeepBut.refl w g none)
 have HL:=Aside0.mk hB.size
 clear hI
 have HW0:=Aside0.mk hB.size
 have HB:=Aside0.mk hB
 clear hB
 have H:(if 0≤a2 then (if a2<(l0.length:Int) then (if 0≤a1 then (if a1<(l0.length:Int) then ((impl_ringNew_1.f k ((rd_T59 l0 a2).f0) ((rd_T59 l0 a2).f1) ((rd_T59 l0 a1).f0) ((rd_T59 l0 a1).f1)).bind fun t275=>(if t275<0 then (some (a2,a1,wrap64 (s3_0+1))) else (some (a1,a2,s3_0)))) else (none)) else (none)) else (none)) else (none))=some (r1,r2,r3):=h
 clear h
 by_cases c6:0≤a2
 ·rw [if_pos c6] at H
  have c6b0:decide (0≤a2)=true:=decide_eq_true c6
  clear c6
  by_cases c7:a2<(l0.length:Int)
  ·rw [if_pos c7] at H
   have c7b0:decide (a2<(l0.length:Int))=true:=decide_eq_true c7
   clear c7
   by_cases c8:0≤a1
   ·rw [if_pos c8] at H
    have c8b0:decide (0≤a1)=true:=decide_eq_true c8
    clear c8
    by_cases c9:a1<(l0.length:Int)
    ·rw [if_pos c9] at H
     have c9b0:decide (a1<(l0.length:Int))=true:=decide_eq_true c9
     clear c9
     replace H:=Option.bind_eq_some_iff.mp H
     obtain ⟨t275,A100,H⟩:=H
     replace H:(if t275<0 then (some (a2,a1,wrap64 (s3_0+1))) else (some (a1,a2,s3_0)))=some (r1,r2,r3):=H
     have A10:=Aside0.mk A100
     clear A100
     by_cases c11:t275<0
     ·rw [if_pos c11] at H
      have c11b0:decide (t275<0)=true:=decide_eq_true c11
      clear c11
      simp only [Option.some.injEq,Prod.mk.injEq] at H
      obtain ⟨rfl,rfl,rfl⟩:=H
      go_enter Tryd.func97,Tryd.ntmps97
      try go_wp2
      refine as3_ (IsS3.drew HI3.out) (keep_drew HK.out) (below_drew1 HB.out) ?_
      clear HI3 HK HB
      intro HI3 HK HB
      have p273:0≤(a2:Int):=of_decide_eq_true (z0_)
      have q273:a2<(l0.length:Int):=of_decide_eq_true (z0_)
      obtain ⟨ad273,e273,hx273_0,hx273_1⟩:=at_T59 (Kd.C_foot_now HR0.out HK.out) a2 p273 q273
      have hw273_1:=hx273_1
      have hw273_0:=hx273_0
      cases e273
      have hne273_1:=(show (⟨(ad273.add ((a2).toNat*2)).block,(ad273.add ((a2).toNat*2)).off+1,none⟩:Addr).block≠g from by first | (rw [add_block];exact Kd.foot_ne HR0.out (by omega) (by decide)) | (show (Addr.add _ _).block≠_;rw [add_block];exact Kd.foot_ne HR0.out (by omega) (by decide)) | exact Kd.foot_ne HR0.out (by omega) (by decide) | (dsimp only;exact Kd.foot_ne HR0.out (by omega) (by decide)))
      have hlt273_1:=(Kd.foot_lt HR0.out (by omega) (by decide))
      have hne273_0:=(show ((ad273.add ((a2).toNat*2)):Addr).block≠g from by first | (rw [add_block];exact Kd.foot_ne HR0.out (by omega) (by decide)) | (show (Addr.add _ _).block≠_;rw [add_block];exact Kd.foot_ne HR0.out (by omega) (by decide)) | exact Kd.foot_ne HR0.out (by omega) (by decide) | (dsimp only;exact Kd.foot_ne HR0.out (by omega) (by decide)))
      have hlt273_0:=(Kd.foot_lt HR0.out (by omega) (by decide))
      replace p273:=eq_true p273
      replace q273:=eq_true q273
      have p274:0≤(a1:Int):=of_decide_eq_true (z0_)
      have q274:a1<(l0.length:Int):=of_decide_eq_true (z0_)
      obtain ⟨ad274,e274,hx274_0,hx274_1⟩:=at_T59 (Kd.C_foot_now HR0.out HK.out) a1 p274 q274
      have hw274_1:=hx274_1
      have hw274_0:=hx274_0
      obtain rfl:ad273=ad274:=(by injection e274)
      have hne274_1:=(show (⟨(ad273.add ((a1).toNat*2)).block,(ad273.add ((a1).toNat*2)).off+1,none⟩:Addr).block≠g from by first | (rw [add_block];exact Kd.foot_ne HR0.out (by omega) (by decide)) | (show (Addr.add _ _).block≠_;rw [add_block];exact Kd.foot_ne HR0.out (by omega) (by decide)) | exact Kd.foot_ne HR0.out (by omega) (by decide) | (dsimp only;exact Kd.foot_ne HR0.out (by omega) (by decide)))
      have hlt274_1:=(Kd.foot_lt HR0.out (by omega) (by decide))
      have hne274_0:=(show ((ad273.add ((a1).toNat*2)):Addr).block≠g from by first | (rw [add_block];exact Kd.foot_ne HR0.out (by omega) (by decide)) | (show (Addr.add _ _).block≠_;rw [add_block];exact Kd.foot_ne HR0.out (by omega) (by decide)) | exact Kd.foot_ne HR0.out (by omega) (by decide) | (dsimp only;exact Kd.foot_ne HR0.out (by omega) (by decide)))
      have hlt274_0:=(Kd.foot_lt HR0.out (by omega) (by decide))
      replace p274:=eq_true p274
      replace q274:=eq_true q274
      refine start_ (n:=11) (S:=fun w'=>w'.cell? (ad273.add ((a2).toNat*2))=some (.int .i64 ((rd_T59 l0 a2).f0))∧w'.cell? ⟨(ad273.add ((a2).toNat*2)).block,(ad273.add ((a2).toNat*2)).off+1,none⟩=some (.int .i64 ((rd_T59 l0 a2).f1))∧w'.cell? (ad273.add ((a1).toNat*2))=some (.int .i64 ((rd_T59 l0 a1).f0))∧w'.cell? ⟨(ad273.add ((a1).toNat*2)).block,(ad273.add ((a1).toNat*2)).off+1,none⟩=some (.int .i64 ((rd_T59 l0 a1).f1))) (ds:=[]) #[O,O,O,O,O,O,O,O,O,O,O] (by kernel_rfl) rfl rfl ⟨hx273_0,hx273_1,hx274_0,hx274_1⟩ (fun hHeld=>?_);refine with_tabW slices_order2CmpFunc_impl_Token_impl_ringNew_1.tab1 slices_order2CmpFunc_impl_Token_impl_ringNew_1.bits1 (fun HT_ HW_=>?_)
      generalize w.drew=w12 at HI3 HK HB hx273_0 hx273_1 hx274_0 hx274_1 hHeld ⊢
      refine pu_ 0 12 #[I,O,O,O,O,O,O,O,O,O,O] HT_.out ?_
      refine pu_ 1 13 #[I,I,O,O,O,O,O,O,O,O,O] HT_.out ?_
      refine pu_ 2 14 #[I,I,I,O,O,O,O,O,O,O,O] HT_.out ?_
      refine pu_ 3 15 #[I,I,I,I,O,O,O,O,O,O,O] HT_.out ?_
      refine pu_ 5 17 #[I,I,I,I,O,I,O,O,O,O,O] HT_.out ?_
      refine pu_ 6 18 #[I,I,I,I,O,I,I,O,O,O,O] HT_.out ?_
      refine pu_ 7 19 #[I,I,I,I,O,I,I,I,O,O,O] HT_.out ?_
      refine tk4_ 4 16 #[I,I,I,I,I,I,I,I,O,O,O] HT_.out HW_.out hHeld ?_
      refine tk4_ 8 20 #[I,I,I,I,I,I,I,I,I,O,O] HT_.out HW_.out hHeld ?_
      refine o1_ 9 21 #[I,I,I,I,I,I,I,I,I,I,O] HT_.out (fun K hK=>?_)
      refine goesD_ Tryd.func61 (by kernel_rfl) rfl #[.agg #[.int .i64 ((rd_T59 l0 a2).f0),.int .i64 ((rd_T59 l0 a2).f1)],.agg #[.int .i64 ((rd_T59 l0 a1).f0),.int .i64 ((rd_T59 l0 a1).f1)]] (by rfl) rfl rfl (by rfl) (z32_) ?_
      with_reducible refine (impl_ringNew_1.calls k ((rd_T59 l0 a2).f0) ((rd_T59 l0 a2).f1) ((rd_T59 l0 a1).f0) ((rd_T59 l0 a1).f1) t275 _ A10.out).mono ?_
      rintro e w13 ⟨rfl,hb⟩
      have HS0_:=(hb.cell (World.block_lt_of_cell? _ _ (hHeld.1))).trans (hHeld.1)
      have HS1_:=(hb.cell (World.block_lt_of_cell? _ _ (hHeld.2.1))).trans (hHeld.2.1)
      have HS2_:=(hb.cell (World.block_lt_of_cell? _ _ (hHeld.2.2.1))).trans (hHeld.2.2.1)
      have HS3_:=(hb.cell (World.block_lt_of_cell? _ _ (hHeld.2.2.2))).trans (hHeld.2.2.2)
      refine ⟨_,rfl,?_⟩
      refine as3_ (IsS3.below (z22_ HI3.out) hb) (KeepBut.trans (z16_ HK.out) (KeepBut.of_below hb g none) (.inl rfl)) (below_step (z14_ HB.out HI3.out) hb) ?_
      clear HI3 HK HB
      intro HI3 HK HB
      (try clear hb)
      refine hK.out _ _ ⟨HS0_,HS1_,HS2_,HS3_⟩ (fun hHeld=>?_)
      clear hK K
      refine nm_ 21 ?_
      refine pu_ 10 22 #[I,I,I,I,I,I,I,I,I,I,I] HT_.out ?_
      refine done_ (done_of HT_.out (by kernel_rfl)) ?_
      obtain ⟨HGz14,hgz14⟩:=HI3.out
      have hcz14_0:=cellS3_0 HGz14
      have hfz14_0:=blk_frozen HGz14 0
      clear HGz14 hgz14
      try go_wp2
      go_ret2
      exact ⟨z10_,z22_ HI3.out,z14_ HB.out HI3.out,z16_ HK.out⟩
     ·rw [if_neg c11] at H
      have c11b0:decide (t275<0)=false:=decide_eq_false c11
      clear c11
      simp only [Option.some.injEq,Prod.mk.injEq] at H
      obtain ⟨rfl,rfl,rfl⟩:=H
      go_enter Tryd.func97,Tryd.ntmps97
      try go_wp2
      refine as3_ (IsS3.drew HI3.out) (keep_drew HK.out) (below_drew1 HB.out) ?_
      clear HI3 HK HB
      intro HI3 HK HB
      have p273:0≤(a2:Int):=of_decide_eq_true (z0_)
      have q273:a2<(l0.length:Int):=of_decide_eq_true (z0_)
      obtain ⟨ad273,e273,hx273_0,hx273_1⟩:=at_T59 (Kd.C_foot_now HR0.out HK.out) a2 p273 q273
      have hw273_1:=hx273_1
      have hw273_0:=hx273_0
      cases e273
      have hne273_1:=(show (⟨(ad273.add ((a2).toNat*2)).block,(ad273.add ((a2).toNat*2)).off+1,none⟩:Addr).block≠g from by first | (rw [add_block];exact Kd.foot_ne HR0.out (by omega) (by decide)) | (show (Addr.add _ _).block≠_;rw [add_block];exact Kd.foot_ne HR0.out (by omega) (by decide)) | exact Kd.foot_ne HR0.out (by omega) (by decide) | (dsimp only;exact Kd.foot_ne HR0.out (by omega) (by decide)))
      have hlt273_1:=(Kd.foot_lt HR0.out (by omega) (by decide))
      have hne273_0:=(show ((ad273.add ((a2).toNat*2)):Addr).block≠g from by first | (rw [add_block];exact Kd.foot_ne HR0.out (by omega) (by decide)) | (show (Addr.add _ _).block≠_;rw [add_block];exact Kd.foot_ne HR0.out (by omega) (by decide)) | exact Kd.foot_ne HR0.out (by omega) (by decide) | (dsimp only;exact Kd.foot_ne HR0.out (by omega) (by decide)))
      have hlt273_0:=(Kd.foot_lt HR0.out (by omega) (by decide))
      replace p273:=eq_true p273
      replace q273:=eq_true q273
      have p274:0≤(a1:Int):=of_decide_eq_true (z0_)
      have q274:a1<(l0.length:Int):=of_decide_eq_true (z0_)
      obtain ⟨ad274,e274,hx274_0,hx274_1⟩:=at_T59 (Kd.C_foot_now HR0.out HK.out) a1 p274 q274
      have hw274_1:=hx274_1
      have hw274_0:=hx274_0
      obtain rfl:ad273=ad274:=(by injection e274)
      have hne274_1:=(show (⟨(ad273.add ((a1).toNat*2)).block,(ad273.add ((a1).toNat*2)).off+1,none⟩:Addr).block≠g from by first | (rw [add_block];exact Kd.foot_ne HR0.out (by omega) (by decide)) | (show (Addr.add _ _).block≠_;rw [add_block];exact Kd.foot_ne HR0.out (by omega) (by decide)) | exact Kd.foot_ne HR0.out (by omega) (by decide) | (dsimp only;exact Kd.foot_ne HR0.out (by omega) (by decide)))
      have hlt274_1:=(Kd.foot_lt HR0.out (by omega) (by decide))
      have hne274_0:=(show ((ad273.add ((a1).toNat*2)):Addr).block≠g from by first | (rw [add_block];exact Kd.foot_ne HR0.out (by omega) (by decide)) | (show (Addr.add _ _).block≠_;rw [add_block];exact Kd.foot_ne HR0.out (by omega) (by decide)) | exact Kd.foot_ne HR0.out (by omega) (by decide) | (dsimp only;exact Kd.foot_ne HR0.out (by omega) (by decide)))
      have hlt274_0:=(Kd.foot_lt HR0.out (by omega) (by decide))
      replace p274:=eq_true p274
      replace q274:=eq_true q274
      refine start_ (n:=11) (S:=fun w'=>w'.cell? (ad273.add ((a2).toNat*2))=some (.int .i64 ((rd_T59 l0 a2).f0))∧w'.cell? ⟨(ad273.add ((a2).toNat*2)).block,(ad273.add ((a2).toNat*2)).off+1,none⟩=some (.int .i64 ((rd_T59 l0 a2).f1))∧w'.cell? (ad273.add ((a1).toNat*2))=some (.int .i64 ((rd_T59 l0 a1).f0))∧w'.cell? ⟨(ad273.add ((a1).toNat*2)).block,(ad273.add ((a1).toNat*2)).off+1,none⟩=some (.int .i64 ((rd_T59 l0 a1).f1))) (ds:=[]) #[O,O,O,O,O,O,O,O,O,O,O] (by kernel_rfl) rfl rfl ⟨hx273_0,hx273_1,hx274_0,hx274_1⟩ (fun hHeld=>?_);refine with_tabW slices_order2CmpFunc_impl_Token_impl_ringNew_1.tab1 slices_order2CmpFunc_impl_Token_impl_ringNew_1.bits1 (fun HT_ HW_=>?_)
      generalize w.drew=w15 at HI3 HK HB hx273_0 hx273_1 hx274_0 hx274_1 hHeld ⊢
      refine pu_ 0 12 #[I,O,O,O,O,O,O,O,O,O,O] HT_.out ?_
      refine pu_ 1 13 #[I,I,O,O,O,O,O,O,O,O,O] HT_.out ?_
      refine pu_ 2 14 #[I,I,I,O,O,O,O,O,O,O,O] HT_.out ?_
      refine pu_ 3 15 #[I,I,I,I,O,O,O,O,O,O,O] HT_.out ?_
      refine pu_ 5 17 #[I,I,I,I,O,I,O,O,O,O,O] HT_.out ?_
      refine pu_ 6 18 #[I,I,I,I,O,I,I,O,O,O,O] HT_.out ?_
      refine pu_ 7 19 #[I,I,I,I,O,I,I,I,O,O,O] HT_.out ?_
      refine tk4_ 4 16 #[I,I,I,I,I,I,I,I,O,O,O] HT_.out HW_.out hHeld ?_
      refine tk4_ 8 20 #[I,I,I,I,I,I,I,I,I,O,O] HT_.out HW_.out hHeld ?_
      refine o1_ 9 21 #[I,I,I,I,I,I,I,I,I,I,O] HT_.out (fun K hK=>?_)
      refine goesD_ Tryd.func61 (by kernel_rfl) rfl #[.agg #[.int .i64 ((rd_T59 l0 a2).f0),.int .i64 ((rd_T59 l0 a2).f1)],.agg #[.int .i64 ((rd_T59 l0 a1).f0),.int .i64 ((rd_T59 l0 a1).f1)]] (by rfl) rfl rfl (by rfl) (z32_) ?_
      with_reducible refine (impl_ringNew_1.calls k ((rd_T59 l0 a2).f0) ((rd_T59 l0 a2).f1) ((rd_T59 l0 a1).f0) ((rd_T59 l0 a1).f1) t275 _ A10.out).mono ?_
      rintro e w16 ⟨rfl,hb⟩
      have HS0_:=(hb.cell (World.block_lt_of_cell? _ _ (hHeld.1))).trans (hHeld.1)
      have HS1_:=(hb.cell (World.block_lt_of_cell? _ _ (hHeld.2.1))).trans (hHeld.2.1)
      have HS2_:=(hb.cell (World.block_lt_of_cell? _ _ (hHeld.2.2.1))).trans (hHeld.2.2.1)
      have HS3_:=(hb.cell (World.block_lt_of_cell? _ _ (hHeld.2.2.2))).trans (hHeld.2.2.2)
      refine ⟨_,rfl,?_⟩
      refine as3_ (IsS3.below (z22_ HI3.out) hb) (KeepBut.trans (z16_ HK.out) (KeepBut.of_below hb g none) (.inl rfl)) (below_step (z14_ HB.out HI3.out) hb) ?_
      clear HI3 HK HB
      intro HI3 HK HB
      (try clear hb)
      refine hK.out _ _ ⟨HS0_,HS1_,HS2_,HS3_⟩ (fun hHeld=>?_)
      clear hK K
      refine nm_ 21 ?_
      refine pu_ 10 22 #[I,I,I,I,I,I,I,I,I,I,I] HT_.out ?_
      refine done_ (done_of HT_.out (by kernel_rfl)) ?_
      try go_wp2
      go_ret2
      exact ⟨z10_,z22_ HI3.out,z14_ HB.out HI3.out,z16_ HK.out⟩
    ·rw [if_neg c9] at H
     exact absurd H (by simp)
   ·rw [if_neg c8] at H
    exact absurd H (by simp)
  ·rw [if_neg c7] at H
   exact absurd H (by simp)
 ·rw [if_neg c6] at H
  exact absurd H (by simp)


/-! ### slices_medianCmpFunc_impl_Token_impl_ringNew_1: function 92 -/
def slices_medianCmpFunc_impl_Token_impl_ringNew_1.f (k:Nat) (l0:List (S59)) (a1:Int) (a2:Int) (a3:Int) (s4_0:Int)  : Option (Int × Int):=(slices_order2CmpFunc_impl_Token_impl_ringNew_1.f k l0 a1 a2 s4_0).bind fun bt276=>((slices_order2CmpFunc_impl_Token_impl_ringNew_1.f k l0 bt276.2.1 a3 bt276.2.2).bind fun bt279=>((slices_order2CmpFunc_impl_Token_impl_ringNew_1.f k l0 bt276.1 bt279.1 bt279.2.2).bind fun bt282=>(some (bt282.2.1,bt282.2.2))))
theorem slices_medianCmpFunc_impl_Token_impl_ringNew_1.mono:∀ a0 a1 a2 a3 a4 k,LeO (slices_medianCmpFunc_impl_Token_impl_ringNew_1.f k a0 a1 a2 a3 a4) (slices_medianCmpFunc_impl_Token_impl_ringNew_1.f (k+1) a0 a1 a2 a3 a4):=by
 intro a0 a1 a2 a3 a4 k
 unfold slices_medianCmpFunc_impl_Token_impl_ringNew_1.f
 repeat' first
   | (with_reducible exact slices_order2CmpFunc_impl_Token_impl_ringNew_1.mono _ _ _ _ _)
   | (with_reducible exact LeO.refl _)
   | (with_reducible exact LeO.none _)
   | (with_reducible refine LeO.ite ?_ ?_)
   | (with_reducible refine LeO.bind ?_ (fun _=>?_))
   | exact slices_order2CmpFunc_impl_Token_impl_ringNew_1.mono _ _ _ _ _
   | exact LeO.none _
   | refine LeO.ite ?_ ?_
   | refine LeO.bind ?_ (fun _=>?_)
set_option maxHeartbeats 8000000 in
set_option maxRecDepth 100000 in
theorem slices_medianCmpFunc_impl_Token_impl_ringNew_1.calls (k:Nat) (A0:Option Addr) (c0:Nat) (l0:List (S59)) (a1:Int) (a2:Int) (a3:Int) (g:Nat) (s4_0:Int)  (r1:Int) (r2:Int) (w0 w:World) (hI:IsS3 w0 w g s4_0) (hB:Below w0.heap.size w0 w) (hr0:∀ W_,KeepBut w W_ g none→Kd.C k59 W_ A0 l0.length l0) (hc0:l0.length≤c0) (h:slices_medianCmpFunc_impl_Token_impl_ringNew_1.f k l0 a1 a2 a3 s4_0=some (r1,r2)) :
  Calls Tryd.prog 92 #[.slice A0 l0.length c0,.int .i64 a1,.int .i64 a2,.int .i64 a3,.pointer (some ⟨g,0,none⟩),.func (.func 61) #[] #[]] w fun e w'=>e = .returned (.int .i64 r1)∧IsS3 w0 w' g r2∧Below w0.heap.size w0 w'∧KeepBut w w' g none:=by
 have HR0:=Aside0.mk hr0
 have HC0:=Aside0.mk hc0
 clear hr0 hc0
 have HI4:=Aside0.mk hI
 have HK:=Aside0.mk (KeepBut.refl w g none)
 have HL:=Aside0.mk hB.size
 clear hI
 have HW0:=Aside0.mk hB.size
 have HB:=Aside0.mk hB
 clear hB
 have H:((slices_order2CmpFunc_impl_Token_impl_ringNew_1.f k l0 a1 a2 s4_0).bind fun bt276=>((slices_order2CmpFunc_impl_Token_impl_ringNew_1.f k l0 bt276.2.1 a3 bt276.2.2).bind fun bt279=>((slices_order2CmpFunc_impl_Token_impl_ringNew_1.f k l0 bt276.1 bt279.1 bt279.2.2).bind fun bt282=>(some (bt282.2.1,bt282.2.2)))))=some (r1,r2):=h
 clear h
 replace H:=Option.bind_eq_some_iff.mp H
 obtain ⟨⟨t276,t277,t278⟩,A70,H⟩:=H
 replace H:((slices_order2CmpFunc_impl_Token_impl_ringNew_1.f k l0 t277 a3 t278).bind fun bt279=>((slices_order2CmpFunc_impl_Token_impl_ringNew_1.f k l0 t276 bt279.1 bt279.2.2).bind fun bt282=>(some (bt282.2.1,bt282.2.2))))=some (r1,r2):=H
 have A7:=Aside0.mk A70
 clear A70
 replace H:=Option.bind_eq_some_iff.mp H
 obtain ⟨⟨t279,t280,t281⟩,A80,H⟩:=H
 replace H:((slices_order2CmpFunc_impl_Token_impl_ringNew_1.f k l0 t276 t279 t281).bind fun bt282=>(some (bt282.2.1,bt282.2.2)))=some (r1,r2):=H
 have A8:=Aside0.mk A80
 clear A80
 replace H:=Option.bind_eq_some_iff.mp H
 obtain ⟨⟨t282,t283,t284⟩,A90,H⟩:=H
 replace H:(some (t283,t284))=some (r1,r2):=H
 have A9:=Aside0.mk A90
 clear A90
 simp only [Option.some.injEq,Prod.mk.injEq] at H
 obtain ⟨rfl,rfl⟩:=H
 go_enter Tryd.func92,Tryd.ntmps92
 go_wp2_with (first | ((with_reducible refine gc_ 97 ?_);refine gl_ (some 19) Tryd.func97 #[.slice A0 l0.length c0,.int .i64 a1,.int .i64 a2,.pointer (some ⟨g,0,none⟩),.func (.func 61) #[] #[]] ?_;(with_reducible refine (slices_order2CmpFunc_impl_Token_impl_ringNew_1.calls k _ _ l0 a1 a2 g s4_0  t276 t277 t278 w0 _ ?s1 ?s2 ?s3 ?s4 A7.out).mono ?_);(case s1=>repeat (first | (with_reducible first | exact HI4.out | apply IsS3.alloc | apply IsS3.drewN | apply IsS3.drew | apply IsS3.set_0) | exact HI4.out));(case s2=>repeat (first | (with_reducible first | exact HB.out | apply below_alloc | apply pw_below_drewN | apply below_drew1 | refine below_set ?_ (IsS3.ge HI4.out)) | exact HB.out));(case s3=>exact Kd.C_foot_step HR0.out (z16_ HK.out));(case s4=>exact HC0.out);rintro e w10 ⟨rfl,hi,hb,hk⟩;refine ⟨_,rfl,?_⟩;refine as3_ (KeepBut.trans (z16_ HK.out) hk (.inl rfl)) (hb) (hi) ?_;clear HK HB HI4;intro HK HB HI4;(try clear hb);(try clear hk);(try clear hi)) | ((with_reducible refine gc_ 97 ?_);refine gl_ (some 28) Tryd.func97 #[.slice A0 l0.length c0,.int .i64 t277,.int .i64 a3,.pointer (some ⟨g,0,none⟩),.func (.func 61) #[] #[]] ?_;(with_reducible refine (slices_order2CmpFunc_impl_Token_impl_ringNew_1.calls k _ _ l0 t277 a3 g t278  t279 t280 t281 w0 _ ?s1 ?s2 ?s3 ?s4 A8.out).mono ?_);(case s1=>repeat (first | (with_reducible first | exact HI4.out | apply IsS3.alloc | apply IsS3.drewN | apply IsS3.drew | apply IsS3.set_0) | exact HI4.out));(case s2=>repeat (first | (with_reducible first | exact HB.out | apply below_alloc | apply pw_below_drewN | apply below_drew1 | refine below_set ?_ (IsS3.ge HI4.out)) | exact HB.out));(case s3=>exact Kd.C_foot_step HR0.out (z16_ HK.out));(case s4=>exact HC0.out);rintro e w11 ⟨rfl,hi,hb,hk⟩;refine ⟨_,rfl,?_⟩;refine as3_ (KeepBut.trans (z16_ HK.out) hk (.inl rfl)) (hb) (hi) ?_;clear HK HB HI4;intro HK HB HI4;(try clear hb);(try clear hk);(try clear hi)) | ((with_reducible refine gc_ 97 ?_);refine gl_ (some 37) Tryd.func97 #[.slice A0 l0.length c0,.int .i64 t276,.int .i64 t279,.pointer (some ⟨g,0,none⟩),.func (.func 61) #[] #[]] ?_;(with_reducible refine (slices_order2CmpFunc_impl_Token_impl_ringNew_1.calls k _ _ l0 t276 t279 g t281  t282 t283 t284 w0 _ ?s1 ?s2 ?s3 ?s4 A9.out).mono ?_);(case s1=>repeat (first | (with_reducible first | exact HI4.out | apply IsS3.alloc | apply IsS3.drewN | apply IsS3.drew | apply IsS3.set_0) | exact HI4.out));(case s2=>repeat (first | (with_reducible first | exact HB.out | apply below_alloc | apply pw_below_drewN | apply below_drew1 | refine below_set ?_ (IsS3.ge HI4.out)) | exact HB.out));(case s3=>exact Kd.C_foot_step HR0.out (z16_ HK.out));(case s4=>exact HC0.out);rintro e w12 ⟨rfl,hi,hb,hk⟩;refine ⟨_,rfl,?_⟩;refine as3_ (KeepBut.trans (z16_ HK.out) hk (.inl rfl)) (hb) (hi) ?_;clear HK HB HI4;intro HK HB HI4;(try clear hb);(try clear hk);(try clear hi)))
 go_ret
 exact ⟨z10_,z22_ HI4.out,z14_ HB.out HI4.out,z16_ HK.out⟩


/-! ### slices_medianAdjacentCmpFunc_impl_Token_impl_ringNew_1: function 91 -/
def slices_medianAdjacentCmpFunc_impl_Token_impl_ringNew_1.f (k:Nat) (l0:List (S59)) (a1:Int) (s2_0:Int)  : Option (Int × Int):=(slices_medianCmpFunc_impl_Token_impl_ringNew_1.f k l0 (wrap64 (a1-1)) a1 (wrap64 (a1+1)) s2_0).bind fun bt285=>(some (bt285.1,bt285.2))
theorem slices_medianAdjacentCmpFunc_impl_Token_impl_ringNew_1.mono:∀ a0 a1 a2 k,LeO (slices_medianAdjacentCmpFunc_impl_Token_impl_ringNew_1.f k a0 a1 a2) (slices_medianAdjacentCmpFunc_impl_Token_impl_ringNew_1.f (k+1) a0 a1 a2):=by
 intro a0 a1 a2 k
 unfold slices_medianAdjacentCmpFunc_impl_Token_impl_ringNew_1.f
 repeat' first
   | (with_reducible exact slices_medianCmpFunc_impl_Token_impl_ringNew_1.mono _ _ _ _ _ _)
   | (with_reducible exact LeO.refl _)
   | (with_reducible exact LeO.none _)
   | (with_reducible refine LeO.ite ?_ ?_)
   | (with_reducible refine LeO.bind ?_ (fun _=>?_))
   | exact slices_medianCmpFunc_impl_Token_impl_ringNew_1.mono _ _ _ _ _ _
   | exact LeO.none _
   | refine LeO.ite ?_ ?_
   | refine LeO.bind ?_ (fun _=>?_)
set_option maxHeartbeats 8000000 in
set_option maxRecDepth 100000 in
theorem slices_medianAdjacentCmpFunc_impl_Token_impl_ringNew_1.calls (k:Nat) (A0:Option Addr) (c0:Nat) (l0:List (S59)) (a1:Int) (g:Nat) (s2_0:Int)  (r1:Int) (r2:Int) (w0 w:World) (hI:IsS3 w0 w g s2_0) (hB:Below w0.heap.size w0 w) (hr0:∀ W_,KeepBut w W_ g none→Kd.C k59 W_ A0 l0.length l0) (hc0:l0.length≤c0) (h:slices_medianAdjacentCmpFunc_impl_Token_impl_ringNew_1.f k l0 a1 s2_0=some (r1,r2)) :
  Calls Tryd.prog 91 #[.slice A0 l0.length c0,.int .i64 a1,.pointer (some ⟨g,0,none⟩),.func (.func 61) #[] #[]] w fun e w'=>e = .returned (.int .i64 r1)∧IsS3 w0 w' g r2∧Below w0.heap.size w0 w'∧KeepBut w w' g none:=by
 have HR0:=Aside0.mk hr0
 have HC0:=Aside0.mk hc0
 clear hr0 hc0
 have HI2:=Aside0.mk hI
 have HK:=Aside0.mk (KeepBut.refl w g none)
 have HL:=Aside0.mk hB.size
 clear hI
 have HW0:=Aside0.mk hB.size
 have HB:=Aside0.mk hB
 clear hB
 have H:((slices_medianCmpFunc_impl_Token_impl_ringNew_1.f k l0 (wrap64 (a1-1)) a1 (wrap64 (a1+1)) s2_0).bind fun bt285=>(some (bt285.1,bt285.2)))=some (r1,r2):=h
 clear h
 replace H:=Option.bind_eq_some_iff.mp H
 obtain ⟨⟨t285,t286⟩,A50,H⟩:=H
 replace H:(some (t285,t286))=some (r1,r2):=H
 have A5:=Aside0.mk A50
 clear A50
 simp only [Option.some.injEq,Prod.mk.injEq] at H
 obtain ⟨rfl,rfl⟩:=H
 go_enter Tryd.func91,Tryd.ntmps91
 go_wp2_with (first | ((with_reducible refine gc_ 92 ?_);refine gl_ (some 17) Tryd.func92 #[.slice A0 l0.length c0,.int .i64 (wrap64 (a1-1)),.int .i64 a1,.int .i64 (wrap64 (a1+1)),.pointer (some ⟨g,0,none⟩),.func (.func 61) #[] #[]] ?_;(with_reducible refine (slices_medianCmpFunc_impl_Token_impl_ringNew_1.calls k _ _ l0 (wrap64 (a1-1)) a1 (wrap64 (a1+1)) g s2_0  t285 t286 w0 _ ?s1 ?s2 ?s3 ?s4 A5.out).mono ?_);(case s1=>repeat (first | (with_reducible first | exact HI2.out | apply IsS3.alloc | apply IsS3.drewN | apply IsS3.drew | apply IsS3.set_0) | exact HI2.out));(case s2=>repeat (first | (with_reducible first | exact HB.out | apply below_alloc | apply pw_below_drewN | apply below_drew1 | refine below_set ?_ (IsS3.ge HI2.out)) | exact HB.out));(case s3=>exact Kd.C_foot_step HR0.out (z16_ HK.out));(case s4=>exact HC0.out);rintro e w6 ⟨rfl,hi,hb,hk⟩;refine ⟨_,rfl,?_⟩;refine as3_ (KeepBut.trans (z16_ HK.out) hk (.inl rfl)) (hb) (hi) ?_;clear HK HB HI2;intro HK HB HI2;(try clear hb);(try clear hk);(try clear hi)))
 go_ret
 exact ⟨z10_,z22_ HI2.out,z14_ HB.out HI2.out,z16_ HK.out⟩


/-! ### slices_choosePivotCmpFunc_impl_Token_impl_ringNew_1: function 77 -/
def slices_choosePivotCmpFunc_impl_Token_impl_ringNew_1.j0:Nat→Int→Int→Option (Int × Int)
 | 0,_,_=>none
 | k+1,x13,x288000=>if x288000=0 then (some (x13,1)) else (if x288000=12 then (some (x13,2)) else (some (x13,0)))
def slices_choosePivotCmpFunc_impl_Token_impl_ringNew_1.f (k:Nat) (l0:List (S59)) (a1:Int) (a2:Int)  : Option (Int × Int):=if (wrap64 (a2-a1))≥8 then (if (wrap64 (a2-a1))≥50 then ((slices_medianAdjacentCmpFunc_impl_Token_impl_ringNew_1.f k l0 (wrap64 (a1+(wrap64 ((wrap64 (Int.tdiv (wrap64 (a2-a1)) 4)))))) 0).bind fun bt288=>((slices_medianAdjacentCmpFunc_impl_Token_impl_ringNew_1.f k l0 (wrap64 (a1+(wrap64 ((wrap64 (Int.tdiv (wrap64 (a2-a1)) 4))*2)))) bt288.2).bind fun bt290=>((slices_medianAdjacentCmpFunc_impl_Token_impl_ringNew_1.f k l0 (wrap64 (a1+(wrap64 ((wrap64 (Int.tdiv (wrap64 (a2-a1)) 4))*3)))) bt290.2).bind fun bt292=>((slices_medianCmpFunc_impl_Token_impl_ringNew_1.f k l0 bt288.1 bt290.1 bt292.1 bt292.2).bind fun bt294=>(slices_choosePivotCmpFunc_impl_Token_impl_ringNew_1.j0 k bt294.1 bt294.2))))) else ((slices_medianCmpFunc_impl_Token_impl_ringNew_1.f k l0 (wrap64 (a1+(wrap64 ((wrap64 (Int.tdiv (wrap64 (a2-a1)) 4)))))) (wrap64 (a1+(wrap64 ((wrap64 (Int.tdiv (wrap64 (a2-a1)) 4))*2)))) (wrap64 (a1+(wrap64 ((wrap64 (Int.tdiv (wrap64 (a2-a1)) 4))*3)))) 0).bind fun bt296=>(slices_choosePivotCmpFunc_impl_Token_impl_ringNew_1.j0 k bt296.1 bt296.2))) else (slices_choosePivotCmpFunc_impl_Token_impl_ringNew_1.j0 k (wrap64 (a1+(wrap64 ((wrap64 (Int.tdiv (wrap64 (a2-a1)) 4))*2)))) 0)
theorem slices_choosePivotCmpFunc_impl_Token_impl_ringNew_1.mono_l:∀ k,(∀ y0 y1,LeO (slices_choosePivotCmpFunc_impl_Token_impl_ringNew_1.j0 k y0 y1) (slices_choosePivotCmpFunc_impl_Token_impl_ringNew_1.j0 (k+1) y0 y1))
 | 0=>fun _ _ r h=>by simp [slices_choosePivotCmpFunc_impl_Token_impl_ringNew_1.j0] at h
 | k+1=>by
  have ih0:=slices_choosePivotCmpFunc_impl_Token_impl_ringNew_1.mono_l k
  ·intro y0 y1
   unfold slices_choosePivotCmpFunc_impl_Token_impl_ringNew_1.j0
   repeat' first
   | (with_reducible exact ih0 _ _)
   | (with_reducible exact slices_medianAdjacentCmpFunc_impl_Token_impl_ringNew_1.mono _ _ _ _)
   | (with_reducible exact slices_medianCmpFunc_impl_Token_impl_ringNew_1.mono _ _ _ _ _ _)
   | (with_reducible exact LeO.refl _)
   | (with_reducible exact LeO.none _)
   | (with_reducible refine LeO.ite ?_ ?_)
   | (with_reducible refine LeO.bind ?_ (fun _=>?_))
   | exact ih0 _ _
   | exact slices_medianAdjacentCmpFunc_impl_Token_impl_ringNew_1.mono _ _ _ _
   | exact slices_medianCmpFunc_impl_Token_impl_ringNew_1.mono _ _ _ _ _ _
   | exact LeO.none _
   | refine LeO.ite ?_ ?_
   | refine LeO.bind ?_ (fun _=>?_)
theorem slices_choosePivotCmpFunc_impl_Token_impl_ringNew_1.mono:∀ a0 a1 a2 k,LeO (slices_choosePivotCmpFunc_impl_Token_impl_ringNew_1.f k a0 a1 a2) (slices_choosePivotCmpFunc_impl_Token_impl_ringNew_1.f (k+1) a0 a1 a2):=by
 intro a0 a1 a2 k
 have ih0:=slices_choosePivotCmpFunc_impl_Token_impl_ringNew_1.mono_l k
 unfold slices_choosePivotCmpFunc_impl_Token_impl_ringNew_1.f
 repeat' first
   | (with_reducible exact ih0 _ _)
   | (with_reducible exact slices_medianAdjacentCmpFunc_impl_Token_impl_ringNew_1.mono _ _ _ _)
   | (with_reducible exact slices_medianCmpFunc_impl_Token_impl_ringNew_1.mono _ _ _ _ _ _)
   | (with_reducible exact LeO.refl _)
   | (with_reducible exact LeO.none _)
   | (with_reducible refine LeO.ite ?_ ?_)
   | (with_reducible refine LeO.bind ?_ (fun _=>?_))
   | exact ih0 _ _
   | exact slices_medianAdjacentCmpFunc_impl_Token_impl_ringNew_1.mono _ _ _ _
   | exact slices_medianCmpFunc_impl_Token_impl_ringNew_1.mono _ _ _ _ _ _
   | exact LeO.none _
   | refine LeO.ite ?_ ?_
   | refine LeO.bind ?_ (fun _=>?_)
set_option maxHeartbeats 8000000 in
set_option maxRecDepth 100000 in
theorem slices_choosePivotCmpFunc_impl_Token_impl_ringNew_1.calls (k:Nat) (A0:Option Addr) (c0:Nat) (l0:List (S59)) (a1:Int) (a2:Int)  (r1:Int) (r2:Int) (w:World) (hr0:Kd.C k59 w A0 l0.length l0) (hc0:l0.length≤c0) (h:slices_choosePivotCmpFunc_impl_Token_impl_ringNew_1.f k l0 a1 a2=some (r1,r2)) :
  Calls Tryd.prog 77 #[.slice A0 l0.length c0,.int .i64 a1,.int .i64 a2,.func (.func 61) #[] #[]] w fun e w'=>e = .returned (.tuple #[.int .i64 r1,.int .i64 r2])∧Below w.heap.size w w':=by
 have HR0:=Aside0.mk hr0
 have HC0:=Aside0.mk hc0
 clear hr0 hc0
 have HB:=Aside0.mk (Below.refl w.heap.size w)
 have H:(if (wrap64 (a2-a1))≥8 then (if (wrap64 (a2-a1))≥50 then ((slices_medianAdjacentCmpFunc_impl_Token_impl_ringNew_1.f k l0 (wrap64 (a1+(wrap64 ((wrap64 (Int.tdiv (wrap64 (a2-a1)) 4)))))) 0).bind fun bt288=>((slices_medianAdjacentCmpFunc_impl_Token_impl_ringNew_1.f k l0 (wrap64 (a1+(wrap64 ((wrap64 (Int.tdiv (wrap64 (a2-a1)) 4))*2)))) bt288.2).bind fun bt290=>((slices_medianAdjacentCmpFunc_impl_Token_impl_ringNew_1.f k l0 (wrap64 (a1+(wrap64 ((wrap64 (Int.tdiv (wrap64 (a2-a1)) 4))*3)))) bt290.2).bind fun bt292=>((slices_medianCmpFunc_impl_Token_impl_ringNew_1.f k l0 bt288.1 bt290.1 bt292.1 bt292.2).bind fun bt294=>(slices_choosePivotCmpFunc_impl_Token_impl_ringNew_1.j0 k bt294.1 bt294.2))))) else ((slices_medianCmpFunc_impl_Token_impl_ringNew_1.f k l0 (wrap64 (a1+(wrap64 ((wrap64 (Int.tdiv (wrap64 (a2-a1)) 4)))))) (wrap64 (a1+(wrap64 ((wrap64 (Int.tdiv (wrap64 (a2-a1)) 4))*2)))) (wrap64 (a1+(wrap64 ((wrap64 (Int.tdiv (wrap64 (a2-a1)) 4))*3)))) 0).bind fun bt296=>(slices_choosePivotCmpFunc_impl_Token_impl_ringNew_1.j0 k bt296.1 bt296.2))) else (slices_choosePivotCmpFunc_impl_Token_impl_ringNew_1.j0 k (wrap64 (a1+(wrap64 ((wrap64 (Int.tdiv (wrap64 (a2-a1)) 4))*2)))) 0))=some (r1,r2):=h
 clear h
 have HC5:=Aside0.mk H
 clear H
 go_enter Tryd.func77,Tryd.ntmps77
 go_upto_if 34 with (first | ((with_reducible refine gd_ 11 ?_);refine be_ 11 #[.int .i64 0] 3 ?_;intro gb287 hg w6 hbox hb;refine as4_ (below_step (z6_ HB.out) hb) ((show IsS3 w w6 gb287 0 from ⟨hbox,(z8_ HB.out:w.heap.size≤gb287)⟩)) ((z8_ HB.out:w.heap.size≤gb287)) ((z8_ HB.out:w.heap.size≤gb287)) ?_;clear HB;intro HB HI287 GW287 GE287;clear hb hbox hg))
 (try simp only [Act.put,sa_,s0_,ss_])
 go_cut [13] (fun v13 wc=>∃ (kq:Nat) (x13_4:Int) (x288000_4:Int),v13 = .int .i64 x13_4∧Aside0 (slices_choosePivotCmpFunc_impl_Token_impl_ringNew_1.j0 kq x13_4 x288000_4=some (r1,r2))∧Aside0 (kq≤k)∧Aside0 (IsS3 w wc gb287 x288000_4)∧Aside0 (Below w.heap.size w wc))
 case first =>
  have H:=HC5.out
  clear HC5
  by_cases c7:(wrap64 (a2-a1))≥8
  ·rw [if_pos c7] at H
   have c7b0:decide (8≤(wrap64 (a2-a1)))=true:=decide_eq_true c7
   clear c7
   (first | rw [c7b0] | (simp only [i64_w,i32_w];rw [c7b0]) | skip)
   by_cases c8:(wrap64 (a2-a1))≥50
   ·rw [if_pos c8] at H
    have c8b0:decide (50≤(wrap64 (a2-a1)))=true:=decide_eq_true c8
    clear c8
    replace H:=Option.bind_eq_some_iff.mp H
    obtain ⟨⟨t288,t289⟩,A90,H⟩:=H
    replace H:((slices_medianAdjacentCmpFunc_impl_Token_impl_ringNew_1.f k l0 (wrap64 (a1+(wrap64 ((wrap64 (Int.tdiv (wrap64 (a2-a1)) 4))*2)))) t289).bind fun bt290=>((slices_medianAdjacentCmpFunc_impl_Token_impl_ringNew_1.f k l0 (wrap64 (a1+(wrap64 ((wrap64 (Int.tdiv (wrap64 (a2-a1)) 4))*3)))) bt290.2).bind fun bt292=>((slices_medianCmpFunc_impl_Token_impl_ringNew_1.f k l0 t288 bt290.1 bt292.1 bt292.2).bind fun bt294=>(slices_choosePivotCmpFunc_impl_Token_impl_ringNew_1.j0 k bt294.1 bt294.2))))=some (r1,r2):=H
    have A9:=Aside0.mk A90
    clear A90
    replace H:=Option.bind_eq_some_iff.mp H
    obtain ⟨⟨t290,t291⟩,A100,H⟩:=H
    replace H:((slices_medianAdjacentCmpFunc_impl_Token_impl_ringNew_1.f k l0 (wrap64 (a1+(wrap64 ((wrap64 (Int.tdiv (wrap64 (a2-a1)) 4))*3)))) t291).bind fun bt292=>((slices_medianCmpFunc_impl_Token_impl_ringNew_1.f k l0 t288 t290 bt292.1 bt292.2).bind fun bt294=>(slices_choosePivotCmpFunc_impl_Token_impl_ringNew_1.j0 k bt294.1 bt294.2)))=some (r1,r2):=H
    have A10:=Aside0.mk A100
    clear A100
    replace H:=Option.bind_eq_some_iff.mp H
    obtain ⟨⟨t292,t293⟩,A110,H⟩:=H
    replace H:((slices_medianCmpFunc_impl_Token_impl_ringNew_1.f k l0 t288 t290 t292 t293).bind fun bt294=>(slices_choosePivotCmpFunc_impl_Token_impl_ringNew_1.j0 k bt294.1 bt294.2))=some (r1,r2):=H
    have A11:=Aside0.mk A110
    clear A110
    replace H:=Option.bind_eq_some_iff.mp H
    obtain ⟨⟨t294,t295⟩,A120,H⟩:=H
    replace H:(slices_choosePivotCmpFunc_impl_Token_impl_ringNew_1.j0 k t294 t295)=some (r1,r2):=H
    have A12:=Aside0.mk A120
    clear A120
    have H':=Aside0.mk H
    clear H
    go_wp2_with (first | ((with_reducible refine gc_ 91 ?_);refine gl_ (some 40) Tryd.func91 #[.slice A0 l0.length c0,.int .i64 (wrap64 (a1+(wrap64 ((wrap64 (Int.tdiv (wrap64 (a2-a1)) 4)))))),.pointer (some ⟨gb287,0,none⟩),.func (.func 61) #[] #[]] ?_;(with_reducible refine (slices_medianAdjacentCmpFunc_impl_Token_impl_ringNew_1.calls k _ _ l0 (wrap64 (a1+(wrap64 ((wrap64 (Int.tdiv (wrap64 (a2-a1)) 4)))))) gb287 0  t288 t289 w _ ?s1 ?s2 ?s3 ?s4 A9.out).mono ?_);(case s1=>repeat (first | (with_reducible first | exact HI287.out | apply IsS3.alloc | apply IsS3.drewN | apply IsS3.drew | apply IsS3.set_0) | exact HI287.out));(case s2=>repeat (first | (with_reducible first | exact HB.out | apply below_alloc | apply pw_below_drewN | apply below_drew1 | refine below_set ?_ (IsS3.ge HI287.out)) | exact HB.out));(case s3=>exact Kd.C_foot_came k59_heap HR0.out (z14_ HB.out HI287.out) (IsS3.ge HI287.out));(case s4=>exact HC0.out);rintro e w13 ⟨rfl,hi,hb,hk⟩;refine ⟨_,rfl,?_⟩;refine as2_ (hb) (hi) ?_;clear HB HI287;intro HB HI287;(try clear hb);(try clear hk);(try clear hi)) | ((with_reducible refine gc_ 91 ?_);refine gl_ (some 44) Tryd.func91 #[.slice A0 l0.length c0,.int .i64 (wrap64 (a1+(wrap64 ((wrap64 (Int.tdiv (wrap64 (a2-a1)) 4))*2)))),.pointer (some ⟨gb287,0,none⟩),.func (.func 61) #[] #[]] ?_;(with_reducible refine (slices_medianAdjacentCmpFunc_impl_Token_impl_ringNew_1.calls k _ _ l0 (wrap64 (a1+(wrap64 ((wrap64 (Int.tdiv (wrap64 (a2-a1)) 4))*2)))) gb287 t289  t290 t291 w _ ?s1 ?s2 ?s3 ?s4 A10.out).mono ?_);(case s1=>repeat (first | (with_reducible first | exact HI287.out | apply IsS3.alloc | apply IsS3.drewN | apply IsS3.drew | apply IsS3.set_0) | exact HI287.out));(case s2=>repeat (first | (with_reducible first | exact HB.out | apply below_alloc | apply pw_below_drewN | apply below_drew1 | refine below_set ?_ (IsS3.ge HI287.out)) | exact HB.out));(case s3=>exact Kd.C_foot_came k59_heap HR0.out (z14_ HB.out HI287.out) (IsS3.ge HI287.out));(case s4=>exact HC0.out);rintro e w14 ⟨rfl,hi,hb,hk⟩;refine ⟨_,rfl,?_⟩;refine as2_ (hb) (hi) ?_;clear HB HI287;intro HB HI287;(try clear hb);(try clear hk);(try clear hi)) | ((with_reducible refine gc_ 91 ?_);refine gl_ (some 48) Tryd.func91 #[.slice A0 l0.length c0,.int .i64 (wrap64 (a1+(wrap64 ((wrap64 (Int.tdiv (wrap64 (a2-a1)) 4))*3)))),.pointer (some ⟨gb287,0,none⟩),.func (.func 61) #[] #[]] ?_;(with_reducible refine (slices_medianAdjacentCmpFunc_impl_Token_impl_ringNew_1.calls k _ _ l0 (wrap64 (a1+(wrap64 ((wrap64 (Int.tdiv (wrap64 (a2-a1)) 4))*3)))) gb287 t291  t292 t293 w _ ?s1 ?s2 ?s3 ?s4 A11.out).mono ?_);(case s1=>repeat (first | (with_reducible first | exact HI287.out | apply IsS3.alloc | apply IsS3.drewN | apply IsS3.drew | apply IsS3.set_0) | exact HI287.out));(case s2=>repeat (first | (with_reducible first | exact HB.out | apply below_alloc | apply pw_below_drewN | apply below_drew1 | refine below_set ?_ (IsS3.ge HI287.out)) | exact HB.out));(case s3=>exact Kd.C_foot_came k59_heap HR0.out (z14_ HB.out HI287.out) (IsS3.ge HI287.out));(case s4=>exact HC0.out);rintro e w15 ⟨rfl,hi,hb,hk⟩;refine ⟨_,rfl,?_⟩;refine as2_ (hb) (hi) ?_;clear HB HI287;intro HB HI287;(try clear hb);(try clear hk);(try clear hi)) | ((with_reducible refine gc_ 92 ?_);refine gl_ (some 54) Tryd.func92 #[.slice A0 l0.length c0,.int .i64 t288,.int .i64 t290,.int .i64 t292,.pointer (some ⟨gb287,0,none⟩),.func (.func 61) #[] #[]] ?_;(with_reducible refine (slices_medianCmpFunc_impl_Token_impl_ringNew_1.calls k _ _ l0 t288 t290 t292 gb287 t293  t294 t295 w _ ?s1 ?s2 ?s3 ?s4 A12.out).mono ?_);(case s1=>repeat (first | (with_reducible first | exact HI287.out | apply IsS3.alloc | apply IsS3.drewN | apply IsS3.drew | apply IsS3.set_0) | exact HI287.out));(case s2=>repeat (first | (with_reducible first | exact HB.out | apply below_alloc | apply pw_below_drewN | apply below_drew1 | refine below_set ?_ (IsS3.ge HI287.out)) | exact HB.out));(case s3=>exact Kd.C_foot_came k59_heap HR0.out (z14_ HB.out HI287.out) (IsS3.ge HI287.out));(case s4=>exact HC0.out);rintro e w16 ⟨rfl,hi,hb,hk⟩;refine ⟨_,rfl,?_⟩;refine as2_ (hb) (hi) ?_;clear HB HI287;intro HB HI287;(try clear hb);(try clear hk);(try clear hi)))
    go_meet
    case rel=>exact ⟨_,(t294),(t295),(z1_),H',⟨by first | omega | exact Nat.le_refl _⟩,⟨z22_ HI287.out⟩,⟨z14_ HB.out HI287.out⟩⟩
   ·rw [if_neg c8] at H
    have c8b0:decide (50≤(wrap64 (a2-a1)))=false:=decide_eq_false c8
    clear c8
    replace H:=Option.bind_eq_some_iff.mp H
    obtain ⟨⟨t296,t297⟩,A170,H⟩:=H
    replace H:(slices_choosePivotCmpFunc_impl_Token_impl_ringNew_1.j0 k t296 t297)=some (r1,r2):=H
    have A17:=Aside0.mk A170
    clear A170
    have H':=Aside0.mk H
    clear H
    go_wp2_with (first | ((with_reducible refine gc_ 92 ?_);refine gl_ (some 54) Tryd.func92 #[.slice A0 l0.length c0,.int .i64 (wrap64 (a1+(wrap64 ((wrap64 (Int.tdiv (wrap64 (a2-a1)) 4)))))),.int .i64 (wrap64 (a1+(wrap64 ((wrap64 (Int.tdiv (wrap64 (a2-a1)) 4))*2)))),.int .i64 (wrap64 (a1+(wrap64 ((wrap64 (Int.tdiv (wrap64 (a2-a1)) 4))*3)))),.pointer (some ⟨gb287,0,none⟩),.func (.func 61) #[] #[]] ?_;(with_reducible refine (slices_medianCmpFunc_impl_Token_impl_ringNew_1.calls k _ _ l0 (wrap64 (a1+(wrap64 ((wrap64 (Int.tdiv (wrap64 (a2-a1)) 4)))))) (wrap64 (a1+(wrap64 ((wrap64 (Int.tdiv (wrap64 (a2-a1)) 4))*2)))) (wrap64 (a1+(wrap64 ((wrap64 (Int.tdiv (wrap64 (a2-a1)) 4))*3)))) gb287 0  t296 t297 w _ ?s1 ?s2 ?s3 ?s4 A17.out).mono ?_);(case s1=>repeat (first | (with_reducible first | exact HI287.out | apply IsS3.alloc | apply IsS3.drewN | apply IsS3.drew | apply IsS3.set_0) | exact HI287.out));(case s2=>repeat (first | (with_reducible first | exact HB.out | apply below_alloc | apply pw_below_drewN | apply below_drew1 | refine below_set ?_ (IsS3.ge HI287.out)) | exact HB.out));(case s3=>exact Kd.C_foot_came k59_heap HR0.out (z14_ HB.out HI287.out) (IsS3.ge HI287.out));(case s4=>exact HC0.out);rintro e w18 ⟨rfl,hi,hb,hk⟩;refine ⟨_,rfl,?_⟩;refine as2_ (hb) (hi) ?_;clear HB HI287;intro HB HI287;(try clear hb);(try clear hk);(try clear hi)))
    go_meet
    case rel=>exact ⟨_,(t296),(t297),(z1_),H',⟨by first | omega | exact Nat.le_refl _⟩,⟨z22_ HI287.out⟩,⟨z14_ HB.out HI287.out⟩⟩
  ·rw [if_neg c7] at H
   have c7b0:decide (8≤(wrap64 (a2-a1)))=false:=decide_eq_false c7
   clear c7
   (first | rw [c7b0] | (simp only [i64_w,i32_w];rw [c7b0]) | skip)
   have H':=Aside0.mk H
   clear H
   go_wp2
   go_meet
   case rel=>exact ⟨_,(wrap64 (a1+(wrap64 ((wrap64 (Int.tdiv (wrap64 (a2-a1)) 4))*2)))),(0),(z1_),H',⟨by first | omega | exact Nat.le_refl _⟩,⟨z22_ HI287.out⟩,⟨z14_ HB.out HI287.out⟩⟩
 case rest =>
  clear HC5
  try clear p2
  try clear p6
  try clear c7
  try clear c7b0
  try clear c8
  try clear c8b0
  obtain ⟨kq,x13_4,x288000_4,rfl,HA,HJ4,HI287,HB⟩:=hcut
  cases kq with
  | zero=>exact absurd HA.out (by simp [slices_choosePivotCmpFunc_impl_Token_impl_ringNew_1.j0])
  | succ kj4 =>
   have H:=HA.out
   clear HA
   simp only [slices_choosePivotCmpFunc_impl_Token_impl_ringNew_1.j0] at H
   by_cases c19:x288000_4=0
   ·rw [if_pos c19] at H
    have c19b0:(x288000_4 == 0)=true:=beq_iff_eq.mpr c19
    have c19b1:(x288000_4 != 0)=false:=bne_eq_false_iff_eq.mpr c19
    clear c19
    simp only [Option.some.injEq,Prod.mk.injEq] at H
    obtain ⟨rfl,rfl⟩:=H
    obtain ⟨HGz20,hgz20⟩:=HI287.out
    have hcz20_0:=cellS3_0 HGz20
    have hfz20_0:=blk_frozen HGz20 0
    clear HGz20 hgz20
    go_wp2
    go_ret2
    exact ⟨z10_,z14_ HB.out HI287.out⟩
   ·rw [if_neg c19] at H
    have c19b0:(x288000_4 == 0)=false:=beq_eq_false_iff_ne.mpr c19
    have c19b1:(x288000_4 != 0)=true:=bne_iff_ne.mpr c19
    by_cases c21:x288000_4=12
    ·rw [if_pos c21] at H
     have c21b0:(x288000_4 == 12)=true:=beq_iff_eq.mpr c21
     have c21b1:(x288000_4 != 12)=false:=bne_eq_false_iff_eq.mpr c21
     clear c21
     simp only [Option.some.injEq,Prod.mk.injEq] at H
     obtain ⟨rfl,rfl⟩:=H
     obtain ⟨HGz22,hgz22⟩:=HI287.out
     have hcz22_0:=cellS3_0 HGz22
     have hfz22_0:=blk_frozen HGz22 0
     clear HGz22 hgz22
     go_wp2
     go_ret2
     exact ⟨z10_,z14_ HB.out HI287.out⟩
    ·rw [if_neg c21] at H
     have c21b0:(x288000_4 == 12)=false:=beq_eq_false_iff_ne.mpr c21
     have c21b1:(x288000_4 != 12)=true:=bne_iff_ne.mpr c21
     simp only [Option.some.injEq,Prod.mk.injEq] at H
     obtain ⟨rfl,rfl⟩:=H
     obtain ⟨HGz23,hgz23⟩:=HI287.out
     have hcz23_0:=cellS3_0 HGz23
     have hfz23_0:=blk_frozen HGz23 0
     clear HGz23 hgz23
     go_wp2
     go_ret2
     exact ⟨z10_,z14_ HB.out HI287.out⟩


/-! ### slices_reverseRangeCmpFunc_impl_Token_impl_ringNew_1: function 78 -/
def slices_reverseRangeCmpFunc_impl_Token_impl_ringNew_1.f (l0:List (S59)) (a1:Int) (a2:Int)  : Option (Unit):=none
set_option maxHeartbeats 8000000 in
set_option maxRecDepth 100000 in
theorem slices_reverseRangeCmpFunc_impl_Token_impl_ringNew_1.calls (A0:Option Addr) (c0:Nat) (l0:List (S59)) (a1:Int) (a2:Int)  (w:World) (hr0:Kd.C k59 w A0 l0.length l0) (hc0:l0.length≤c0) (h:slices_reverseRangeCmpFunc_impl_Token_impl_ringNew_1.f l0 a1 a2=some ()) :
  Calls Tryd.prog 78 #[.slice A0 l0.length c0,.int .i64 a1,.int .i64 a2,.func (.func 61) #[] #[]] w fun e w'=>e = .returned (.tuple #[])∧Drawn0 w w':=by
 have HR0:=Aside0.mk hr0
 have HC0:=Aside0.mk hc0
 clear hr0 hc0
 have H:(none)=some ():=h
 clear h
 exact absurd H (by simp)


/-! ### slices_partialInsertionSortCmpFunc_impl_Token_impl_ringNew_1: function 79 -/
def slices_partialInsertionSortCmpFunc_impl_Token_impl_ringNew_1.f (l0:List (S59)) (a1:Int) (a2:Int)  : Option (Bool):=none
set_option maxHeartbeats 8000000 in
set_option maxRecDepth 100000 in
theorem slices_partialInsertionSortCmpFunc_impl_Token_impl_ringNew_1.calls (A0:Option Addr) (c0:Nat) (l0:List (S59)) (a1:Int) (a2:Int)  (r:Bool) (w:World) (hr0:Kd.C k59 w A0 l0.length l0) (hc0:l0.length≤c0) (h:slices_partialInsertionSortCmpFunc_impl_Token_impl_ringNew_1.f l0 a1 a2=some r) :
  Calls Tryd.prog 79 #[.slice A0 l0.length c0,.int .i64 a1,.int .i64 a2,.func (.func 61) #[] #[]] w fun e w'=>e = .returned (.bool r)∧Drawn0 w w':=by
 have HR0:=Aside0.mk hr0
 have HC0:=Aside0.mk hc0
 clear hr0 hc0
 have H:(none)=some r:=h
 clear h
 exact absurd H (by simp)


/-! ### slices_partitionEqualCmpFunc_impl_Token_impl_ringNew_1: function 80 -/
def slices_partitionEqualCmpFunc_impl_Token_impl_ringNew_1.f (l0:List (S59)) (a1:Int) (a2:Int) (a3:Int)  : Option (Int):=none
set_option maxHeartbeats 8000000 in
set_option maxRecDepth 100000 in
theorem slices_partitionEqualCmpFunc_impl_Token_impl_ringNew_1.calls (A0:Option Addr) (c0:Nat) (l0:List (S59)) (a1:Int) (a2:Int) (a3:Int)  (r:Int) (w:World) (hr0:Kd.C k59 w A0 l0.length l0) (hc0:l0.length≤c0) (h:slices_partitionEqualCmpFunc_impl_Token_impl_ringNew_1.f l0 a1 a2 a3=some r) :
  Calls Tryd.prog 80 #[.slice A0 l0.length c0,.int .i64 a1,.int .i64 a2,.int .i64 a3,.func (.func 61) #[] #[]] w fun e w'=>e = .returned (.int .i64 r)∧Drawn0 w w':=by
 have HR0:=Aside0.mk hr0
 have HC0:=Aside0.mk hc0
 clear hr0 hc0
 have H:(none)=some r:=h
 clear h
 exact absurd H (by simp)

end Go.Proofs.YtelanedlpedfcaaDoor.P
