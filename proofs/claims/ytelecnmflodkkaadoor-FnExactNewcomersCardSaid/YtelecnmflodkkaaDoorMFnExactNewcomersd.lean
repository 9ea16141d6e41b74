/- For all pairs of rings, keys and numbers the program's Newcomers and the reference's return the same, of memory of its own, and the rings stay as they were. No condition. (Part 4 of 5: written by programs of this workplace and by hand, merged.) -/
import Derived.Test.YtelecnmflodkkaaDoorMFnExactNewcomersa
import Derived.Test.YtelecnmflodkkaaDoorMFnExactNewcomersc
set_option linter.unusedVariables false
set_option linter.unusedSimpArgs false

namespace Go.Proofs.YtelecnmflodkkaaDoor.P
open Go.RowKit Go.Proofs.YtelecnmflodkkaaDoorW.PrintWords Go.Proofs.YtelecnmflodkkaaDoorW.PrintLast Go.Proofs.YtelecnmflodkkaaDoorW.PrintMore
attribute [local go_sem] max2_int min2_int max_two min_two max_three min_three max_four min_four   -- for this text's walks alone
set_option linter.unusedVariables false
set_option linter.unusedSimpArgs false

/-! ### spec_l04New: function 40 -/
mutual
def spec_l04New.l0:Nat→Int→Int→Int→Int→List (S77)→Option (Int × (List (S77)))
 | 0,_,_,_,_,_=>none
 | k+1,x0,x1,x6,x110000,x110001=>if x6≤x0 then (spec_l04New.l1 k x0 x1 x6 1 x110000 x110001) else (some (x110000,x110001))
def spec_l04New.l1:Nat→Int→Int→Int→Int→Int→List (S77)→Option (Int × (List (S77)))
 | 0,_,_,_,_,_,_=>none
 | k+1,x0,x1,x6,x7,x110000,x110001=>if x7≤x1 then ((spec_l01Dec.f k x6).bind fun t110=>(if t110.size+1≤9223372036854775807 then ((spec_l01Dec.f k x7).bind fun t111=>(if (t110.size+1)+t111.size≤9223372036854775807 then ((spec_l04Fnv.f k ((t110 ++ (⟨#[45]⟩:ByteArray)) ++ t111)).bind fun t112=>(spec_l04New.l2 k x0 x1 x6 x7 0 x110000 x110001 t112 x6)) else (none))) else (none))) else (spec_l04New.l0 k x0 x1 (wrap64 (x6+1)) x110000 x110001)
def spec_l04New.l2:Nat→Int→Int→Int→Int→Int→Int→List (S77)→Int→Int→Option (Int × (List (S77)))
 | 0,_,_,_,_,_,_,_,_,_=>none
 | k+1,x0,x1,x6,x7,x9,x110000,x110001,x114000,x114001=>if x9<(x110001.length:Int) then (if 0≤x9 then (if ((rd_T77 x110001 x9).f0)<x114000 then (spec_l04New.j3 k x0 x1 x6 x7 x9 true x110000 x110001 x114000 x114001) else (if ((rd_T77 x110001 x9).f0)=x114000 then (spec_l04New.j3 k x0 x1 x6 x7 x9 (decide (((rd_T77 x110001 x9).f1)<x114001)) x110000 x110001 x114000 x114001) else (spec_l04New.j3 k x0 x1 x6 x7 x9 false x110000 x110001 x114000 x114001))) else (none)) else (spec_l04New.j3 k x0 x1 x6 x7 x9 false x110000 x110001 x114000 x114001)
def spec_l04New.j3:Nat→Int→Int→Int→Int→Int→Bool→Int→List (S77)→Int→Int→Option (Int × (List (S77)))
 | 0,_,_,_,_,_,_,_,_,_,_=>none
 | k+1,x0,x1,x6,x7,x9,x69,x110000,x110001,x114000,x114001=>if x69=true then (spec_l04New.l2 k x0 x1 x6 x7 (wrap64 (x9+1)) x110000 x110001 x114000 x114001) else ((some (([]:List (S77)):List (S77))).bind fun y117=>(if 0≤x9 then (if x9≤(x110001.length:Int) then ((some (x110001.take (x9:Int).toNat:List (S77))).bind fun y120=>(if y117.length+y120.length<8796093022208 then ((some (y117 ++ y120:List (S77))).bind fun y124=>(if y124.length<8796093022208 then ((some (y124 ++ [(⟨x114000,x114001⟩:S77)]:List (S77))).bind fun y127=>((some (x110001.drop (x9:Int).toNat:List (S77))).bind fun y130=>(if y127.length+y130.length<8796093022208 then (spec_l04New.l1 k x0 x1 x6 (wrap64 (x7+1)) x110000 (y127 ++ y130)) else (none)))) else (none))) else (none))) else (none)) else (none)))
end
def spec_l04New.f (k:Nat) (a0:Int) (a1:Int):Option (Int × (List (S77))):=spec_l04New.l0 k a0 a1 1 a0 ([]:List (S77))
theorem spec_l04New.mono_l:∀ k,(∀ y0 y1 y2 y3 y4,LeO (spec_l04New.l0 k y0 y1 y2 y3 y4) (spec_l04New.l0 (k+1) y0 y1 y2 y3 y4))∧(∀ y0 y1 y2 y3 y4 y5,LeO (spec_l04New.l1 k y0 y1 y2 y3 y4 y5) (spec_l04New.l1 (k+1) y0 y1 y2 y3 y4 y5))∧(∀ y0 y1 y2 y3 y4 y5 y6 y7 y8,LeO (spec_l04New.l2 k y0 y1 y2 y3 y4 y5 y6 y7 y8) (spec_l04New.l2 (k+1) y0 y1 y2 y3 y4 y5 y6 y7 y8))∧(∀ y0 y1 y2 y3 y4 y5 y6 y7 y8 y9,LeO (spec_l04New.j3 k y0 y1 y2 y3 y4 y5 y6 y7 y8 y9) (spec_l04New.j3 (k+1) y0 y1 y2 y3 y4 y5 y6 y7 y8 y9))
 | 0=>⟨fun _ _ _ _ _ r h=>by simp [spec_l04New.l0] at h,fun _ _ _ _ _ _ r h=>by simp [spec_l04New.l1] at h,fun _ _ _ _ _ _ _ _ _ r h=>by simp [spec_l04New.l2] at h,fun _ _ _ _ _ _ _ _ _ _ r h=>by simp [spec_l04New.j3] at h⟩
 | k+1=>by
  obtain ⟨ih0,ih1,ih2,ih3⟩:=spec_l04New.mono_l k
  refine ⟨?_,?_,?_,?_⟩
  ·intro y0 y1 y2 y3 y4
   unfold spec_l04New.l0
   repeat' first
   | (with_reducible exact ih0 _ _ _ _ _)
   | (with_reducible exact ih1 _ _ _ _ _ _)
   | (with_reducible exact ih2 _ _ _ _ _ _ _ _ _)
   | (with_reducible exact ih3 _ _ _ _ _ _ _ _ _ _)
   | (with_reducible exact spec_l01Dec.mono _ _)
   | (with_reducible exact spec_l04Fnv.mono _ _)
   | (with_reducible exact LeO.refl _)
   | (with_reducible exact LeO.none _)
   | (with_reducible refine LeO.ite ?_ ?_)
   | (with_reducible refine LeO.bind ?_ (fun _=>?_))
   | exact ih0 _ _ _ _ _
   | exact ih1 _ _ _ _ _ _
   | exact ih2 _ _ _ _ _ _ _ _ _
   | exact ih3 _ _ _ _ _ _ _ _ _ _
   | exact spec_l01Dec.mono _ _
   | exact spec_l04Fnv.mono _ _
   | exact LeO.none _
   | refine LeO.ite ?_ ?_
   | refine LeO.bind ?_ (fun _=>?_)
  ·intro y0 y1 y2 y3 y4 y5
   unfold spec_l04New.l1
   repeat' first
   | (with_reducible exact ih0 _ _ _ _ _)
   | (with_reducible exact ih1 _ _ _ _ _ _)
   | (with_reducible exact ih2 _ _ _ _ _ _ _ _ _)
   | (with_reducible exact ih3 _ _ _ _ _ _ _ _ _ _)
   | (with_reducible exact spec_l01Dec.mono _ _)
   | (with_reducible exact spec_l04Fnv.mono _ _)
   | (with_reducible exact LeO.refl _)
   | (with_reducible exact LeO.none _)
   | (with_reducible refine LeO.ite ?_ ?_)
   | (with_reducible refine LeO.bind ?_ (fun _=>?_))
   | exact ih0 _ _ _ _ _
   | exact ih1 _ _ _ _ _ _
   | exact ih2 _ _ _ _ _ _ _ _ _
   | exact ih3 _ _ _ _ _ _ _ _ _ _
   | exact spec_l01Dec.mono _ _
   | exact spec_l04Fnv.mono _ _
   | exact LeO.none _
   | refine LeO.ite ?_ ?_
   | refine LeO.bind ?_ (fun _=>?_)
  ·intro y0 y1 y2 y3 y4 y5 y6 y7 y8
   unfold spec_l04New.l2
   repeat' first
   | (with_reducible exact ih0 _ _ _ _ _)
   | (with_reducible exact ih1 _ _ _ _ _ _)
   | (with_reducible exact ih2 _ _ _ _ _ _ _ _ _)
   | (with_reducible exact ih3 _ _ _ _ _ _ _ _ _ _)
   | (with_reducible exact spec_l01Dec.mono _ _)
   | (with_reducible exact spec_l04Fnv.mono _ _)
   | (with_reducible exact LeO.refl _)
   | (with_reducible exact LeO.none _)
   | (with_reducible refine LeO.ite ?_ ?_)
   | (with_reducible refine LeO.bind ?_ (fun _=>?_))
   | exact ih0 _ _ _ _ _
   | exact ih1 _ _ _ _ _ _
   | exact ih2 _ _ _ _ _ _ _ _ _
   | exact ih3 _ _ _ _ _ _ _ _ _ _
   | exact spec_l01Dec.mono _ _
   | exact spec_l04Fnv.mono _ _
   | exact LeO.none _
   | refine LeO.ite ?_ ?_
   | refine LeO.bind ?_ (fun _=>?_)
  ·intro y0 y1 y2 y3 y4 y5 y6 y7 y8 y9
   unfold spec_l04New.j3
   repeat' first
   | (with_reducible exact ih0 _ _ _ _ _)
   | (with_reducible exact ih1 _ _ _ _ _ _)
   | (with_reducible exact ih2 _ _ _ _ _ _ _ _ _)
   | (with_reducible exact ih3 _ _ _ _ _ _ _ _ _ _)
   | (with_reducible exact spec_l01Dec.mono _ _)
   | (with_reducible exact spec_l04Fnv.mono _ _)
   | (with_reducible exact LeO.refl _)
   | (with_reducible exact LeO.none _)
   | (with_reducible refine LeO.ite ?_ ?_)
   | (with_reducible refine LeO.bind ?_ (fun _=>?_))
   | exact ih0 _ _ _ _ _
   | exact ih1 _ _ _ _ _ _
   | exact ih2 _ _ _ _ _ _ _ _ _
   | exact ih3 _ _ _ _ _ _ _ _ _ _
   | exact spec_l01Dec.mono _ _
   | exact spec_l04Fnv.mono _ _
   | exact LeO.none _
   | refine LeO.ite ?_ ?_
   | refine LeO.bind ?_ (fun _=>?_)
theorem spec_l04New.mono:∀ a0 a1 k,LeO (spec_l04New.f k a0 a1) (spec_l04New.f (k+1) a0 a1):=by
 intro a0 a1 k
 obtain ⟨ih0,ih1,ih2,ih3⟩:=spec_l04New.mono_l k
 unfold spec_l04New.f
 repeat' first
   | (with_reducible exact ih0 _ _ _ _ _)
   | (with_reducible exact ih1 _ _ _ _ _ _)
   | (with_reducible exact ih2 _ _ _ _ _ _ _ _ _)
   | (with_reducible exact ih3 _ _ _ _ _ _ _ _ _ _)
   | (with_reducible exact spec_l01Dec.mono _ _)
   | (with_reducible exact spec_l04Fnv.mono _ _)
   | (with_reducible exact LeO.refl _)
   | (with_reducible exact LeO.none _)
   | (with_reducible refine LeO.ite ?_ ?_)
   | (with_reducible refine LeO.bind ?_ (fun _=>?_))
   | exact ih0 _ _ _ _ _
   | exact ih1 _ _ _ _ _ _
   | exact ih2 _ _ _ _ _ _ _ _ _
   | exact ih3 _ _ _ _ _ _ _ _ _ _
   | exact spec_l01Dec.mono _ _
   | exact spec_l04Fnv.mono _ _
   | exact LeO.none _
   | refine LeO.ite ?_ ?_
   | refine LeO.bind ?_ (fun _=>?_)
set_option maxHeartbeats 8000000 in
set_option maxRecDepth 100000 in
theorem spec_l04New.calls (k:Nat) (a0:Int) (a1:Int) (r1:Int) (r2:List (S77)) (w:World) (h:spec_l04New.f k a0 a1=some (r1,r2)) :
  Calls Tryd.prog 40 #[.int .i64 a0,.int .i64 a1] w fun e w'=>∃ v1_:Value,e = .returned (.agg #[.int .i64 r1,v1_])∧Kd.R k77 77 w' w.heap.size (fun _=>True) v1_ r2∧Below w.heap.size w w':=by
 have hu24:=Tryd.underlying24
 have hu77:=Tryd.underlying77
 have HB:=Aside0.mk (Below.refl w.heap.size w)
 have H:(spec_l04New.l0 k a0 a1 1 a0 ([]:List (S77)))=some (r1,r2):=h
 clear h
 have H':=Aside0.mk H
 clear H
 go_enter Tryd.func40,Tryd.ntmps40
 go_wp2_with (first | ((with_reducible refine gd_ 4 ?_);refine be_ 4 #[.int .i64 0,.slice none 0 0] 24 ?_;intro gb108 hg w3 hbox hb;refine as4_ (below_step (z4_ HB.out) hb) (hbox) ((z8_ HB.out:w.heap.size≤gb108)) ((z8_ HB.out:w.heap.size≤gb108)) ?_;clear HB;intro HB BK108 GW108 GE108;clear hb hbox hg) | ((with_reducible refine gd_ 5 ?_);refine be_ 5 #[.int .i64 0,.slice none 0 0] 24 ?_;intro gb109 hg w4 hbox hb;refine as7_ (blkB_ BK108.out hb) (below_step (z7_ HB.out GE108.out) hb) (hbox) ((z11_ HB.out GE108.out:w.heap.size≤gb109)) ((z11_ HB.out GE108.out:w.heap.size≤gb109)) (neL_ BK108.out hg) (neG_ BK108.out hg) ?_;clear BK108 HB;intro BK108 HB BK109 GW109 GE109 NB108_109 NB109_108;clear hb hbox hg;have hnb5:=NB109_108.out;have hnc5:=NB108_109.out;have ⟨hcz6_0,hcz6_1,hfz6_0,hfz6_1⟩:=cz2_ BK109.out))
 repeat (go_quiet (first | ((with_reducible refine gd_ 4 ?_);refine be_ 4 #[.int .i64 0,.slice none 0 0] 24 ?_;intro gb108 hg w3 hbox hb;refine as4_ (below_step (z4_ HB.out) hb) (hbox) ((z8_ HB.out:w.heap.size≤gb108)) ((z8_ HB.out:w.heap.size≤gb108)) ?_;clear HB;intro HB BK108 GW108 GE108;clear hb hbox hg) | ((with_reducible refine gd_ 5 ?_);refine be_ 5 #[.int .i64 0,.slice none 0 0] 24 ?_;intro gb109 hg w4 hbox hb;refine as7_ (blkB_ BK108.out hb) (below_step (z7_ HB.out GE108.out) hb) (hbox) ((z11_ HB.out GE108.out:w.heap.size≤gb109)) ((z11_ HB.out GE108.out:w.heap.size≤gb109)) (neL_ BK108.out hg) (neG_ BK108.out hg) ?_;clear BK108 HB;intro BK108 HB BK109 GW109 GE109 NB108_109 NB109_108;clear hb hbox hg;have hnb5:=NB109_108.out;have hnc5:=NB108_109.out;have ⟨hcz6_0,hcz6_1,hfz6_0,hfz6_1⟩:=cz2_ BK109.out));try go_wp2_with (first | ((with_reducible refine gd_ 4 ?_);refine be_ 4 #[.int .i64 0,.slice none 0 0] 24 ?_;intro gb108 hg w3 hbox hb;refine as4_ (below_step (z4_ HB.out) hb) (hbox) ((z8_ HB.out:w.heap.size≤gb108)) ((z8_ HB.out:w.heap.size≤gb108)) ?_;clear HB;intro HB BK108 GW108 GE108;clear hb hbox hg) | ((with_reducible refine gd_ 5 ?_);refine be_ 5 #[.int .i64 0,.slice none 0 0] 24 ?_;intro gb109 hg w4 hbox hb;refine as7_ (blkB_ BK108.out hb) (below_step (z7_ HB.out GE108.out) hb) (hbox) ((z11_ HB.out GE108.out:w.heap.size≤gb109)) ((z11_ HB.out GE108.out:w.heap.size≤gb109)) (neL_ BK108.out hg) (neG_ BK108.out hg) ?_;clear BK108 HB;intro BK108 HB BK109 GW109 GE109 NB108_109 NB109_108;clear hb hbox hg;have hnb5:=NB109_108.out;have hnc5:=NB108_109.out;have ⟨hcz6_0,hcz6_1,hfz6_0,hfz6_1⟩:=cz2_ BK109.out)))
 go_loopg [6] k (fun kq v6 w'=>∃ (x6_1:Int) (x110001_1:List (S77)) (u110001:Value),v6 = .int .i64 x6_1∧Aside0 (spec_l04New.l0 kq a0 a1 x6_1 a0 x110001_1=some (r1,r2))∧Aside0 (kq≤k)∧Aside0 (Kd.R k77 77 w' w.heap.size (fun _=>True) u110001 x110001_1)∧Aside0 (w'.heap[gb108]? = some (.cells #[.int .i64 0,(.slice none 0 0)] 24 (0,0)))∧Aside0 (w'.heap[gb109]? = some (.cells #[.int .i64 a0,u110001] 24 (0,0)))∧Aside0 (Below w.heap.size w w'))
 case atStart=>exact ⟨(1),(([]:List (S77))),(.slice none 0 0),(z2_),H',⟨Nat.le_refl _⟩,⟨z37_⟩,⟨z20_ NB108_109.out BK108.out⟩,⟨z27_ BK109.out⟩,⟨z5_ HB.out GE108.out GE109.out⟩⟩
 case round =>
  clear H'
  try clear p2
  try clear c4
  try clear c5
  try clear hcz6_0
  try clear hcz6_1
  try clear hfz6_0
  try clear hfz6_1
  obtain ⟨x6_1,x110001_1,u110001,rfl,HA,HK1,HO_110001,BK108,BK109,HB⟩:=hrel
  cases gk with
  | zero=>exact absurd HA.out (by simp [spec_l04New.l0])
  | succ k1 =>
   have H:=HA.out
   clear HA
   simp only [spec_l04New.l0] at H
   by_cases c7:x6_1≤a0
   ·rw [if_pos c7] at H
    have c7b0:decide (x6_1≤a0)=true:=decide_eq_true c7
    clear c7
    have H':=Aside0.mk H
    clear H
    go_wp2
    repeat (go_quiet (fail);try go_wp2)
    go_loopg [7] k1 (fun kq v7 w'=>∃ (x7_2:Int) (x110001_2:List (S77)) (u110001:Value),v7 = .int .i64 x7_2∧Aside0 (spec_l04New.l1 kq a0 a1 x6_1 x7_2 a0 x110001_2=some (r1,r2))∧Aside0 (kq≤k1)∧Aside0 (Kd.R k77 77 w' w.heap.size (fun _=>True) u110001 x110001_2)∧Aside0 (w'.heap[gb108]? = some (.cells #[.int .i64 0,(.slice none 0 0)] 24 (0,0)))∧Aside0 (w'.heap[gb109]? = some (.cells #[.int .i64 a0,u110001] 24 (0,0)))∧Aside0 (Below w.heap.size w w'))
    case atStart=>exact ⟨(1),(x110001_1),(u110001),(z2_),H',⟨Nat.le_refl _⟩,⟨z1_ HO_110001.out⟩,⟨z3_ BK108.out⟩,⟨z3_ BK109.out⟩,⟨z5_ HB.out GE108.out GE109.out⟩⟩
    case round =>
     clear H'
     try clear p2
     try clear c4
     try clear c5
     try clear c7
     try clear c7b0
     try clear hcz6_0
     try clear hcz6_1
     try clear hfz6_0
     try clear hfz6_1
     try clear p2
     obtain ⟨x7_2,x110001_2,u110001,rfl,HA,HK2,HO_110001,BK108,BK109,HB⟩:=hrel
     cases gk with
     | zero=>exact absurd HA.out (by simp [spec_l04New.l1])
     | succ k2 =>
      have H:=HA.out
      clear HA
      simp only [spec_l04New.l1] at H
      by_cases c8:x7_2≤a1
      ·rw [if_pos c8] at H
       have c8b0:decide (x7_2≤a1)=true:=decide_eq_true c8
       clear c8
       replace H:=Option.bind_eq_some_iff.mp H
       obtain ⟨t110,A90,H⟩:=H
       replace H:(if t110.size+1≤9223372036854775807 then ((spec_l01Dec.f k2 x7_2).bind fun t111=>(if (t110.size+1)+t111.size≤9223372036854775807 then ((spec_l04Fnv.f k2 ((t110 ++ (⟨#[45]⟩:ByteArray)) ++ t111)).bind fun t112=>(spec_l04New.l2 k2 a0 a1 x6_1 x7_2 0 a0 x110001_2 t112 x6_1)) else (none))) else (none))=some (r1,r2):=H
       have A9:=Aside0.mk A90
       clear A90
       by_cases c10:t110.size+1≤9223372036854775807
       ·rw [if_pos c10] at H
        have c10b0:=eq_true c10
        have c10b1:decide (t110.size+1≤9223372036854775807)=true:=decide_eq_true c10
        try have c10b2:(9223372036854775807<t110.size+1)=False:=eq_false (Nat.not_lt.2 c10)
        replace H:=Option.bind_eq_some_iff.mp H
        obtain ⟨t111,A110,H⟩:=H
        replace H:(if (t110.size+1)+t111.size≤9223372036854775807 then ((spec_l04Fnv.f k2 ((t110 ++ (⟨#[45]⟩:ByteArray)) ++ t111)).bind fun t112=>(spec_l04New.l2 k2 a0 a1 x6_1 x7_2 0 a0 x110001_2 t112 x6_1)) else (none))=some (r1,r2):=H
        have A11:=Aside0.mk A110
        clear A110
        by_cases c12:(t110.size+1)+t111.size≤9223372036854775807
        ·rw [if_pos c12] at H
         have c12b0:=eq_true c12
         have c12b1:decide ((t110.size+1)+t111.size≤9223372036854775807)=true:=decide_eq_true c12
         try have c12b2:(9223372036854775807<(t110.size+1)+t111.size)=False:=eq_false (Nat.not_lt.2 c12)
         replace H:=Option.bind_eq_some_iff.mp H
         obtain ⟨t112,A130,H⟩:=H
         replace H:(spec_l04New.l2 k2 a0 a1 x6_1 x7_2 0 a0 x110001_2 t112 x6_1)=some (r1,r2):=H
         have A13:=Aside0.mk A130
         clear A130
         have H':=Aside0.mk H
         clear H
         go_wp2_with (first | (go_at_call 74;(with_reducible refine (spec_l01Dec.calls k2 x6_1 t110 _ A9.out).mono ?_);rintro e w14 ⟨rfl,hb⟩;refine as4_ (Kd.R_below (z1_ HO_110001.out) hb) (blkB_ BK108.out hb) (blkB_ BK109.out hb) (below_step (z5_ HB.out GE108.out GE109.out) hb) ?_;clear HO_110001 BK108 BK109 HB;intro HO_110001 BK108 BK109 HB;(try clear hb)) | (go_at_call 74;(with_reducible refine (spec_l01Dec.calls k2 x7_2 t111 _ A11.out).mono ?_);rintro e w15 ⟨rfl,hb⟩;refine as4_ (Kd.R_below (z1_ HO_110001.out) hb) (blkB_ BK108.out hb) (blkB_ BK109.out hb) (below_step (z5_ HB.out GE108.out GE109.out) hb) ?_;clear HO_110001 BK108 BK109 HB;intro HO_110001 BK108 BK109 HB;(try clear hb)) | (go_at_call 73;(with_reducible refine (spec_l04Fnv.calls k2 ((t110 ++ (⟨#[45]⟩:ByteArray)) ++ t111) t112 _ A13.out).mono ?_);rintro e w' ⟨rfl,⟨nd,rfl⟩⟩;(try first | exact ⟨rfl,_,World.drewN_drewN _ _ _⟩ | exact ⟨rfl,_,Eq.trans (World.drewN_drewN _ _ _) (congrArg (World.drewN _) (Nat.add_assoc _ _ _))⟩)) | ((with_reducible refine gd_ 8 ?_);refine be_ 8 #[.int .i64 0,.int .i64 0] 77 ?_;intro gb113 hg w16 hbox hb;refine as11_ (Kd.R_below (Kd.R_elderB (z1_ HO_110001.out) gb113 (Nat.le_of_eq hg.symm)) hb) (blkB_ BK108.out hb) (blkB_ BK109.out hb) (below_step (z5_ HB.out GE108.out GE109.out) hb) (hbox) ((z18_ HB.out GE108.out GE109.out:w.heap.size≤gb113)) ((z18_ HB.out GE108.out GE109.out:w.heap.size≤gb113)) (neL_ BK108.out hg) (neG_ BK108.out hg) (neL_ BK109.out hg) (neG_ BK109.out hg) ?_;clear HO_110001 BK108 BK109 HB;intro HO_110001 BK108 BK109 HB BK113 GW113 GE113 NB108_113 NB113_108 NB109_113 NB113_109;clear hb hbox hg;have hnb17:=NB113_108.out;have hnc17:=NB108_113.out;have hnb18:=NB113_109.out;have hnc18:=NB109_113.out;have ⟨hcz19_0,hcz19_1,hfz19_0,hfz19_1⟩:=cz2_ BK113.out))
         repeat (go_quiet (first | (go_at_call 74;(with_reducible refine (spec_l01Dec.calls k2 x6_1 t110 _ A9.out).mono ?_);rintro e w14 ⟨rfl,hb⟩;refine as4_ (Kd.R_below (z1_ HO_110001.out) hb) (blkB_ BK108.out hb) (blkB_ BK109.out hb) (below_step (z5_ HB.out GE108.out GE109.out) hb) ?_;clear HO_110001 BK108 BK109 HB;intro HO_110001 BK108 BK109 HB;(try clear hb)) | (go_at_call 74;(with_reducible refine (spec_l01Dec.calls k2 x7_2 t111 _ A11.out).mono ?_);rintro e w15 ⟨rfl,hb⟩;refine as4_ (Kd.R_below (z1_ HO_110001.out) hb) (blkB_ BK108.out hb) (blkB_ BK109.out hb) (below_step (z5_ HB.out GE108.out GE109.out) hb) ?_;clear HO_110001 BK108 BK109 HB;intro HO_110001 BK108 BK109 HB;(try clear hb)) | (go_at_call 73;(with_reducible refine (spec_l04Fnv.calls k2 ((t110 ++ (⟨#[45]⟩:ByteArray)) ++ t111) t112 _ A13.out).mono ?_);rintro e w' ⟨rfl,⟨nd,rfl⟩⟩;(try first | exact ⟨rfl,_,World.drewN_drewN _ _ _⟩ | exact ⟨rfl,_,Eq.trans (World.drewN_drewN _ _ _) (congrArg (World.drewN _) (Nat.add_assoc _ _ _))⟩)) | ((with_reducible refine gd_ 8 ?_);refine be_ 8 #[.int .i64 0,.int .i64 0] 77 ?_;intro gb113 hg w16 hbox hb;refine as11_ (Kd.R_below (Kd.R_elderB (z1_ HO_110001.out) gb113 (Nat.le_of_eq hg.symm)) hb) (blkB_ BK108.out hb) (blkB_ BK109.out hb) (below_step (z5_ HB.out GE108.out GE109.out) hb) (hbox) ((z18_ HB.out GE108.out GE109.out:w.heap.size≤gb113)) ((z18_ HB.out GE108.out GE109.out:w.heap.size≤gb113)) (neL_ BK108.out hg) (neG_ BK108.out hg) (neL_ BK109.out hg) (neG_ BK109.out hg) ?_;clear HO_110001 BK108 BK109 HB;intro HO_110001 BK108 BK109 HB BK113 GW113 GE113 NB108_113 NB113_108 NB109_113 NB113_109;clear hb hbox hg;have hnb17:=NB113_108.out;have hnc17:=NB108_113.out;have hnb18:=NB113_109.out;have hnc18:=NB109_113.out;have ⟨hcz19_0,hcz19_1,hfz19_0,hfz19_1⟩:=cz2_ BK113.out));try go_wp2_with (first | (go_at_call 74;(with_reducible refine (spec_l01Dec.calls k2 x6_1 t110 _ A9.out).mono ?_);rintro e w14 ⟨rfl,hb⟩;refine as4_ (Kd.R_below (z1_ HO_110001.out) hb) (blkB_ BK108.out hb) (blkB_ BK109.out hb) (below_step (z5_ HB.out GE108.out GE109.out) hb) ?_;clear HO_110001 BK108 BK109 HB;intro HO_110001 BK108 BK109 HB;(try clear hb)) | (go_at_call 74;(with_reducible refine (spec_l01Dec.calls k2 x7_2 t111 _ A11.out).mono ?_);rintro e w15 ⟨rfl,hb⟩;refine as4_ (Kd.R_below (z1_ HO_110001.out) hb) (blkB_ BK108.out hb) (blkB_ BK109.out hb) (below_step (z5_ HB.out GE108.out GE109.out) hb) ?_;clear HO_110001 BK108 BK109 HB;intro HO_110001 BK108 BK109 HB;(try clear hb)) | (go_at_call 73;(with_reducible refine (spec_l04Fnv.calls k2 ((t110 ++ (⟨#[45]⟩:ByteArray)) ++ t111) t112 _ A13.out).mono ?_);rintro e w' ⟨rfl,⟨nd,rfl⟩⟩;(try first | exact ⟨rfl,_,World.drewN_drewN _ _ _⟩ | exact ⟨rfl,_,Eq.trans (World.drewN_drewN _ _ _) (congrArg (World.drewN _) (Nat.add_assoc _ _ _))⟩)) | ((with_reducible refine gd_ 8 ?_);refine be_ 8 #[.int .i64 0,.int .i64 0] 77 ?_;intro gb113 hg w16 hbox hb;refine as11_ (Kd.R_below (Kd.R_elderB (z1_ HO_110001.out) gb113 (Nat.le_of_eq hg.symm)) hb) (blkB_ BK108.out hb) (blkB_ BK109.out hb) (below_step (z5_ HB.out GE108.out GE109.out) hb) (hbox) ((z18_ HB.out GE108.out GE109.out:w.heap.size≤gb113)) ((z18_ HB.out GE108.out GE109.out:w.heap.size≤gb113)) (neL_ BK108.out hg) (neG_ BK108.out hg) (neL_ BK109.out hg) (neG_ BK109.out hg) ?_;clear HO_110001 BK108 BK109 HB;intro HO_110001 BK108 BK109 HB BK113 GW113 GE113 NB108_113 NB113_108 NB109_113 NB113_109;clear hb hbox hg;have hnb17:=NB113_108.out;have hnc17:=NB108_113.out;have hnb18:=NB113_109.out;have hnc18:=NB109_113.out;have ⟨hcz19_0,hcz19_1,hfz19_0,hfz19_1⟩:=cz2_ BK113.out)))
         go_loopg [9] k2 (fun kq v9 w'=>∃ (x9_3:Int),v9 = .int .i64 x9_3∧Aside0 (spec_l04New.l2 kq a0 a1 x6_1 x7_2 x9_3 a0 x110001_2 t112 x6_1=some (r1,r2))∧Aside0 (kq≤k2)∧Aside0 (Kd.R k77 77 w' w.heap.size (fun k_=>k_≠gb113) u110001 x110001_2)∧Aside0 (w'.heap[gb108]? = some (.cells #[.int .i64 0,(.slice none 0 0)] 24 (0,0)))∧Aside0 (w'.heap[gb109]? = some (.cells #[.int .i64 a0,u110001] 24 (0,0)))∧Aside0 (w'.heap[gb113]? = some (.cells #[.int .i64 t112,.int .i64 x6_1] 77 (0,0)))∧Aside0 (Below w.heap.size w w'))
         case atStart=>exact ⟨(0),(z2_),H',⟨Nat.le_refl _⟩,⟨by (with_reducible repeat (first | apply Kd.R_alloc | apply Kd.R_drewN | apply Kd.R_drew));exact Kd.R_mono (rf2_ (Kd.R_mono HO_110001.out (fun k_ hk=>(⟨hk,hk.2⟩:_∧k_≠gb113))) (fun _ hk=>hk.2)) (fun _ hk=>hk.1.2)⟩,⟨z20_ NB108_113.out BK108.out⟩,⟨z20_ NB109_113.out BK109.out⟩,⟨z27_ BK113.out⟩,⟨z12_ HB.out GE108.out GE109.out GE113.out⟩⟩
         case round =>
          clear H'
          try clear c1
          try clear p2
          try clear c4
          try clear c5
          try clear c7
          try clear c7b0
          try clear c8
          try clear c8b0
          try clear c10
          try clear c10b0
          try clear c10b1
          try clear c10b2
          try clear c12
          try clear c12b0
          try clear c12b1
          try clear c12b2
          try clear c17
          try clear c18
          try clear hcz19_0
          try clear hcz19_1
          try clear hcz6_0
          try clear hcz6_1
          try clear hfz19_0
          try clear hfz19_1
          try clear hfz6_0
          try clear hfz6_1
          try clear p2
          obtain ⟨x9_3,rfl,HA,HK3,HO_110001,BK108,BK109,BK113,HB⟩:=hrel
          cases gk with
          | zero=>exact absurd HA.out (by simp [spec_l04New.l2])
          | succ k3 =>
           have H:=HA.out
           clear HA
           simp only [spec_l04New.l2] at H
           have HC20:=Aside0.mk H
           clear H
           go_upto_region 10 with (fail)
           repeat (go_quiet (fail);go_upto_region 10 with (fail))
           go_cut [69] (fun v69 wc=>∃ (kq:Nat) (x69_19:Bool),v69 = .bool x69_19∧Aside0 (spec_l04New.j3 kq a0 a1 x6_1 x7_2 x9_3 x69_19 a0 x110001_2 t112 x6_1=some (r1,r2))∧Aside0 (kq≤k3)∧Aside0 (Kd.R k77 77 wc w.heap.size (fun k_=>k_≠gb113) u110001 x110001_2)∧Aside0 (wc.heap[gb108]? = some (.cells #[.int .i64 0,(.slice none 0 0)] 24 (0,0)))∧Aside0 (wc.heap[gb109]? = some (.cells #[.int .i64 a0,u110001] 24 (0,0)))∧Aside0 (wc.heap[gb113]? = some (.cells #[.int .i64 t112,.int .i64 x6_1] 77 (0,0)))∧Aside0 (Below w.heap.size w wc))
           case first =>
            have H:=HC20.out
            clear HC20
            by_cases c21:x9_3<(x110001_2.length:Int)
            ·rw [if_pos c21] at H
             have c21b0:decide (x9_3<(x110001_2.length:Int))=true:=decide_eq_true c21
             clear c21
             (first | rw [c21b0] | (simp only [i64_w,i32_w];rw [c21b0]) | skip)
             by_cases c22:0≤x9_3
             ·rw [if_pos c22] at H
              have c22b0:decide (0≤x9_3)=true:=decide_eq_true c22
              clear c22
              by_cases c23:((rd_T77 x110001_2 x9_3).f0)<t112
              ·rw [if_pos c23] at H
               have c23b0:decide (((rd_T77 x110001_2 x9_3).f0)<t112)=true:=decide_eq_true c23
               clear c23
               have H':=Aside0.mk H
               clear H
               have hnb24:=NB109_108.out
               have hnc24:=NB108_109.out
               have hnb25:=NB109_113.out
               have hnc25:=NB113_109.out
               have ⟨hcz26_0,hcz26_1,hfz26_0,hfz26_1⟩:=cz2_ BK109.out
               obtain ⟨Ao27,co27,eo27⟩:=Kd.R_slice HO_110001.out
               subst eo27
               have p114:0≤(x9_3:Int):=of_decide_eq_true (z0_)
               have q114:x9_3<(x110001_2.length:Int):=of_decide_eq_true (z0_)
               obtain ⟨ad114,e114,hx114_0,hx114_1⟩:=at_T77 (Kd.R_reads' HO_110001.out).2.2 x9_3 p114 q114
               cases e114
               replace p114:=eq_true p114
               replace q114:=eq_true q114
               have hnb28:=NB113_108.out
               have hnc28:=NB108_113.out
               have ⟨hcz29_0,hcz29_1,hfz29_0,hfz29_1⟩:=cz2_ BK113.out
               go_wp2
               repeat (go_quiet (fail);try go_wp2)
               go_meet
               case rel=>exact ⟨_,(true),(z2_),H',⟨z24_ HK1.out HK2.out HK3.out⟩,⟨z1_ HO_110001.out⟩,⟨z3_ BK108.out⟩,⟨z3_ BK109.out⟩,⟨z3_ BK113.out⟩,⟨z12_ HB.out GE108.out GE109.out GE113.out⟩⟩
              ·rw [if_neg c23] at H
               have c23b0:decide (((rd_T77 x110001_2 x9_3).f0)<t112)=false:=decide_eq_false c23
               clear c23
               by_cases c30:((rd_T77 x110001_2 x9_3).f0)=t112
               ·rw [if_pos c30] at H
                have c30b0:(((rd_T77 x110001_2 x9_3).f0) == t112)=true:=beq_iff_eq.mpr c30
                have c30b1:(((rd_T77 x110001_2 x9_3).f0) != t112)=false:=bne_eq_false_iff_eq.mpr c30
                clear c30
                have H':=Aside0.mk H
                clear H
                have hnb31:=NB109_108.out
                have hnc31:=NB108_109.out
                have hnb32:=NB109_113.out
                have hnc32:=NB113_109.out
                have ⟨hcz33_0,hcz33_1,hfz33_0,hfz33_1⟩:=cz2_ BK109.out
                obtain ⟨Ao34,co34,eo34⟩:=Kd.R_slice HO_110001.out
                subst eo34
                have p114:0≤(x9_3:Int):=of_decide_eq_true (z0_)
                have q114:x9_3<(x110001_2.length:Int):=of_decide_eq_true (z0_)
                obtain ⟨ad114,e114,hx114_0,hx114_1⟩:=at_T77 (Kd.R_reads' HO_110001.out).2.2 x9_3 p114 q114
                cases e114
                replace p114:=eq_true p114
                replace q114:=eq_true q114
                have hnb35:=NB113_108.out
                have hnc35:=NB108_113.out
                have ⟨hcz36_0,hcz36_1,hfz36_0,hfz36_1⟩:=cz2_ BK113.out
                have p115:0≤(x9_3:Int):=of_decide_eq_true (z0_)
                have q115:x9_3<(x110001_2.length:Int):=of_decide_eq_true (z0_)
                obtain ⟨ad115,e115,hx115_0,hx115_1⟩:=at_T77 (Kd.R_reads' HO_110001.out).2.2 x9_3 p115 q115
                obtain rfl:ad114=ad115:=(by injection e115)
                replace p115:=eq_true p115
                replace q115:=eq_true q115
                have p116:0≤(x9_3:Int):=of_decide_eq_true (z0_)
                have q116:x9_3<(x110001_2.length:Int):=of_decide_eq_true (z0_)
                obtain ⟨ad116,e116,hx116_0,hx116_1⟩:=at_T77 (Kd.R_reads' HO_110001.out).2.2 x9_3 p116 q116
                obtain rfl:ad114=ad116:=(by injection e116)
                replace p116:=eq_true p116
                replace q116:=eq_true q116
                go_wp2
                repeat (go_quiet (fail);try go_wp2)
                go_meet
                case rel=>exact ⟨_,(decide (((rd_T77 x110001_2 x9_3).f1)<x6_1)),(z2_),H',⟨z24_ HK1.out HK2.out HK3.out⟩,⟨z1_ HO_110001.out⟩,⟨z3_ BK108.out⟩,⟨z3_ BK109.out⟩,⟨z3_ BK113.out⟩,⟨z12_ HB.out GE108.out GE109.out GE113.out⟩⟩
               ·rw [if_neg c30] at H
                have c30b0:(((rd_T77 x110001_2 x9_3).f0) == t112)=false:=beq_eq_false_iff_ne.mpr c30
                have c30b1:(((rd_T77 x110001_2 x9_3).f0) != t112)=true:=bne_iff_ne.mpr c30
                have H':=Aside0.mk H
                clear H
                have hnb37:=NB109_108.out
                have hnc37:=NB108_109.out
                have hnb38:=NB109_113.out
                have hnc38:=NB113_109.out
                have ⟨hcz39_0,hcz39_1,hfz39_0,hfz39_1⟩:=cz2_ BK109.out
                obtain ⟨Ao40,co40,eo40⟩:=Kd.R_slice HO_110001.out
                subst eo40
                have p114:0≤(x9_3:Int):=of_decide_eq_true (z0_)
                have q114:x9_3<(x110001_2.length:Int):=of_decide_eq_true (z0_)
                obtain ⟨ad114,e114,hx114_0,hx114_1⟩:=at_T77 (Kd.R_reads' HO_110001.out).2.2 x9_3 p114 q114
                cases e114
                replace p114:=eq_true p114
                replace q114:=eq_true q114
                have hnb41:=NB113_108.out
                have hnc41:=NB108_113.out
                have ⟨hcz42_0,hcz42_1,hfz42_0,hfz42_1⟩:=cz2_ BK113.out
                have p115:0≤(x9_3:Int):=of_decide_eq_true (z0_)
                have q115:x9_3<(x110001_2.length:Int):=of_decide_eq_true (z0_)
                obtain ⟨ad115,e115,hx115_0,hx115_1⟩:=at_T77 (Kd.R_reads' HO_110001.out).2.2 x9_3 p115 q115
                obtain rfl:ad114=ad115:=(by injection e115)
                replace p115:=eq_true p115
                replace q115:=eq_true q115
                go_wp2
                repeat (go_quiet (fail);try go_wp2)
                go_meet
                case rel=>exact ⟨_,(false),(z2_),H',⟨z24_ HK1.out HK2.out HK3.out⟩,⟨z1_ HO_110001.out⟩,⟨z3_ BK108.out⟩,⟨z3_ BK109.out⟩,⟨z3_ BK113.out⟩,⟨z12_ HB.out GE108.out GE109.out GE113.out⟩⟩
             ·rw [if_neg c22] at H
              exact absurd H (by simp)
            ·rw [if_neg c21] at H
             have c21b0:decide (x9_3<(x110001_2.length:Int))=false:=decide_eq_false c21
             clear c21
             (first | rw [c21b0] | (simp only [i64_w,i32_w];rw [c21b0]) | skip)
             have H':=Aside0.mk H
             clear H
             have hnb43:=NB109_108.out
             have hnc43:=NB108_109.out
             have hnb44:=NB109_113.out
             have hnc44:=NB113_109.out
             have ⟨hcz45_0,hcz45_1,hfz45_0,hfz45_1⟩:=cz2_ BK109.out
             obtain ⟨Ao46,co46,eo46⟩:=Kd.R_slice HO_110001.out
             subst eo46
             go_wp2
             repeat (go_quiet (fail);try go_wp2)
             go_meet
             case rel=>exact ⟨_,(false),(z2_),H',⟨z24_ HK1.out HK2.out HK3.out⟩,⟨z1_ HO_110001.out⟩,⟨z3_ BK108.out⟩,⟨z3_ BK109.out⟩,⟨z3_ BK113.out⟩,⟨z12_ HB.out GE108.out GE109.out GE113.out⟩⟩
           case rest =>
            clear HC20
            try clear c1
            try clear p1
            try clear q1
            try clear hx1
            try clear c2
            try clear p2
            try clear c3
            try clear c4
            try clear c5
            try clear c7
            try clear c7b0
            try clear c8
            try clear c8b0
            try clear c10
            try clear c10b0
            try clear c10b1
            try clear c10b2
            try clear p11
            try clear q11
            try clear hx11
            try clear c12
            try clear c12b0
            try clear c12b1
            try clear c12b2
            try clear c17
            try clear c18
            try clear c21
            try clear c21b0
            try clear c22
            try clear c22b0
            try clear c23
            try clear c23b0
            try clear c24
            try clear c25
            try clear c28
            try clear c30
            try clear c30b0
            try clear c30b1
            try clear c31
            try clear c32
            try clear c35
            try clear c37
            try clear c38
            try clear c40
            try clear c41
            try clear c43
            try clear c44
            try clear hcz19_0
            try clear hcz19_1
            try clear hcz26_0
            try clear hcz26_1
            try clear hcz29_0
            try clear hcz29_1
            try clear hcz33_0
            try clear hcz33_1
            try clear hcz36_0
            try clear hcz36_1
            try clear hcz39_0
            try clear hcz39_1
            try clear hcz42_0
            try clear hcz42_1
            try clear hcz45_0
            try clear hcz45_1
            try clear hcz6_0
            try clear hcz6_1
            try clear hfz19_0
            try clear hfz19_1
            try clear hfz26_0
            try clear hfz26_1
            try clear hfz29_0
            try clear hfz29_1
            try clear hfz33_0
            try clear hfz33_1
            try clear hfz36_0
            try clear hfz36_1
            try clear hfz39_0
            try clear hfz39_1
            try clear hfz42_0
            try clear hfz42_1
            try clear hfz45_0
            try clear hfz45_1
            try clear hfz6_0
            try clear hfz6_1
            try clear hx114_0
            try clear hx114_1
            try clear hx115_0
            try clear hx115_1
            try clear hx116_0
            try clear hx116_1
            try clear p114
            try clear p115
            try clear p116
            try clear p2
            try clear q114
            try clear q115
            try clear q116
            obtain ⟨kq,x69_19,rfl,HA,HJ19,HO_110001,BK108,BK109,BK113,HB⟩:=hcut
            cases kq with
            | zero=>exact absurd HA.out (by simp [spec_l04New.j3])
            | succ kj19 =>
             have H:=HA.out
             clear HA
             simp only [spec_l04New.j3] at H
             by_cases c47:x69_19=true
             ·subst c47
              have H1:(spec_l04New.l2 kj19 a0 a1 x6_1 x7_2 (wrap64 (x9_3+1)) a0 x110001_2 t112 x6_1)=some (r1,r2):=by rw [if_pos rfl] at H;exact H
              clear H
              have H:=H1
              clear H1
              have H':=Aside0.mk H
              clear H
              go_wp2
              repeat (go_quiet (fail);try go_wp2)
              go_roundg kj19
              case measure=>have:=HK1.out;have:=HK2.out;have:=HK3.out;have:=HJ19.out;omega
              case rel=>exact ⟨(wrap64 (x9_3+1)),(z2_),H',⟨by have:=HK1.out;have:=HK2.out;have:=HK3.out;have:=HJ19.out;omega⟩,⟨z1_ HO_110001.out⟩,⟨z3_ BK108.out⟩,⟨z3_ BK109.out⟩,⟨z3_ BK113.out⟩,⟨z12_ HB.out GE108.out GE109.out GE113.out⟩⟩
             ·replace c47:=Bool.eq_false_iff.mpr c47
              subst c47
              have H1:((some (([]:List (S77)):List (S77))).bind fun y117=>(if 0≤x9_3 then (if x9_3≤(x110001_2.length:Int) then ((some (x110001_2.take (x9_3:Int).toNat:List (S77))).bind fun y120=>(if y117.length+y120.length<8796093022208 then ((some (y117 ++ y120:List (S77))).bind fun y124=>(if y124.length<8796093022208 then ((some (y124 ++ [(⟨t112,x6_1⟩:S77)]:List (S77))).bind fun y127=>((some (x110001_2.drop (x9_3:Int).toNat:List (S77))).bind fun y130=>(if y127.length+y130.length<8796093022208 then (spec_l04New.l1 kj19 a0 a1 x6_1 (wrap64 (x7_2+1)) a0 (y127 ++ y130)) else (none)))) else (none))) else (none))) else (none)) else (none)))=some (r1,r2):=by rw [if_neg (show ¬ (false=true) by decide)] at H;exact H
              clear H
              have H:=H1
              clear H1
              obtain ⟨y117,hy117⟩:∃ y_:List (S77),y_=(([]:List (S77))):=⟨_,rfl⟩
              replace H:(if 0≤x9_3 then (if x9_3≤(x110001_2.length:Int) then ((some (x110001_2.take (x9_3:Int).toNat:List (S77))).bind fun y120=>(if y117.length+y120.length<8796093022208 then ((some (y117 ++ y120:List (S77))).bind fun y124=>(if y124.length<8796093022208 then ((some (y124 ++ [(⟨t112,x6_1⟩:S77)]:List (S77))).bind fun y127=>((some (x110001_2.drop (x9_3:Int).toNat:List (S77))).bind fun y130=>(if y127.length+y130.length<8796093022208 then (spec_l04New.l1 kj19 a0 a1 x6_1 (wrap64 (x7_2+1)) a0 (y127 ++ y130)) else (none)))) else (none))) else (none))) else (none)) else (none))=some (r1,r2):=by first | (rw [hy117];with_reducible exact H) | (have H2_:=(Option.bind_some _ _).symm.trans H;rw [hy117];with_reducible exact H2_) | (have H2_:=(Option.bind_some _ _).symm.trans H;with_reducible exact H2_) | with_reducible exact H | (rw [hy117];exact H) | exact H
              have Ny117:=Aside0.mk hy117
              clear hy117
              by_cases c48:0≤x9_3
              ·rw [if_pos c48] at H
               have c48b0:=eq_true c48
               have c48b1:decide (0≤x9_3)=true:=decide_eq_true c48
               clear c48
               by_cases c49:x9_3≤(x110001_2.length:Int)
               ·rw [if_pos c49] at H
                have c49b0:=eq_true c49
                have c49b1:decide (x9_3≤(x110001_2.length:Int))=true:=decide_eq_true c49
                clear c49
                obtain ⟨y120,hy120⟩:∃ y_:List (S77),y_=(x110001_2.take (x9_3:Int).toNat):=⟨_,rfl⟩
                replace H:(if y117.length+y120.length<8796093022208 then ((some (y117 ++ y120:List (S77))).bind fun y124=>(if y124.length<8796093022208 then ((some (y124 ++ [(⟨t112,x6_1⟩:S77)]:List (S77))).bind fun y127=>((some (x110001_2.drop (x9_3:Int).toNat:List (S77))).bind fun y130=>(if y127.length+y130.length<8796093022208 then (spec_l04New.l1 kj19 a0 a1 x6_1 (wrap64 (x7_2+1)) a0 (y127 ++ y130)) else (none)))) else (none))) else (none))=some (r1,r2):=by first | (rw [hy120];with_reducible exact H) | (have H2_:=(Option.bind_some _ _).symm.trans H;rw [hy120];with_reducible exact H2_) | (have H2_:=(Option.bind_some _ _).symm.trans H;with_reducible exact H2_) | with_reducible exact H | (rw [hy120];exact H) | exact H
                have Ny120:=Aside0.mk hy120
                clear hy120
                by_cases c50:y117.length+y120.length<8796093022208
                ·rw [if_pos c50] at H
                 have LMc50:=Aside0.mk c50
                 clear c50
                 obtain ⟨y124,hy124⟩:∃ y_:List (S77),y_=(y117 ++ y120):=⟨_,rfl⟩
                 replace H:(if y124.length<8796093022208 then ((some (y124 ++ [(⟨t112,x6_1⟩:S77)]:List (S77))).bind fun y127=>((some (x110001_2.drop (x9_3:Int).toNat:List (S77))).bind fun y130=>(if y127.length+y130.length<8796093022208 then (spec_l04New.l1 kj19 a0 a1 x6_1 (wrap64 (x7_2+1)) a0 (y127 ++ y130)) else (none)))) else (none))=some (r1,r2):=by first | (rw [hy124];with_reducible exact H) | (have H2_:=(Option.bind_some _ _).symm.trans H;rw [hy124];with_reducible exact H2_) | (have H2_:=(Option.bind_some _ _).symm.trans H;with_reducible exact H2_) | with_reducible exact H | (rw [hy124];exact H) | exact H
                 have Ny124:=Aside0.mk hy124
                 clear hy124
                 by_cases c51:y124.length<8796093022208
                 ·rw [if_pos c51] at H
                  have LMc51:=Aside0.mk c51
                  clear c51
                  obtain ⟨y127,hy127⟩:∃ y_:List (S77),y_=(y124 ++ [(⟨t112,x6_1⟩:S77)]):=⟨_,rfl⟩
                  replace H:((some (x110001_2.drop (x9_3:Int).toNat:List (S77))).bind fun y130=>(if y127.length+y130.length<8796093022208 then (spec_l04New.l1 kj19 a0 a1 x6_1 (wrap64 (x7_2+1)) a0 (y127 ++ y130)) else (none)))=some (r1,r2):=by first | (rw [hy127];with_reducible exact H) | (have H2_:=(Option.bind_some _ _).symm.trans H;rw [hy127];with_reducible exact H2_) | (have H2_:=(Option.bind_some _ _).symm.trans H;with_reducible exact H2_) | with_reducible exact H | (rw [hy127];exact H) | exact H
                  have Ny127:=Aside0.mk hy127
                  clear hy127
                  have c52b0:=eq_true (of_decide_eq_true (z0_):0≤x9_3)
                  have c53b0:=eq_true (of_decide_eq_true (z0_):x9_3≤(x110001_2.length:Int))
                  obtain ⟨y130,hy130⟩:∃ y_:List (S77),y_=(x110001_2.drop (x9_3:Int).toNat):=⟨_,rfl⟩
                  replace H:(if y127.length+y130.length<8796093022208 then (spec_l04New.l1 kj19 a0 a1 x6_1 (wrap64 (x7_2+1)) a0 (y127 ++ y130)) else (none))=some (r1,r2):=by first | (rw [hy130];with_reducible exact H) | (have H2_:=(Option.bind_some _ _).symm.trans H;rw [hy130];with_reducible exact H2_) | (have H2_:=(Option.bind_some _ _).symm.trans H;with_reducible exact H2_) | with_reducible exact H | (rw [hy130];exact H) | exact H
                  have Ny130:=Aside0.mk hy130
                  clear hy130
                  by_cases c54:y127.length+y130.length<8796093022208
                  ·rw [if_pos c54] at H
                   have LMc54:=Aside0.mk c54
                   clear c54
                   obtain ⟨y134,hy134⟩:∃ y_:List (S77),y_=(y127 ++ y130):=⟨_,rfl⟩
                   replace H:(spec_l04New.l1 kj19 a0 a1 x6_1 (wrap64 (x7_2+1)) a0 y134)=some (r1,r2):=by first | (rw [hy134];with_reducible exact H) | (have H2_:=(Option.bind_some _ _).symm.trans H;rw [hy134];with_reducible exact H2_) | (have H2_:=(Option.bind_some _ _).symm.trans H;with_reducible exact H2_) | with_reducible exact H | (rw [hy134];exact H) | exact H
                   have Ny134:=Aside0.mk hy134
                   clear hy134
                   have H':=Aside0.mk H
                   clear H
                   go_wp2_with (first | ((with_reducible refine gd_ 72 ?_);refine Kd.R_lit k77 _ 77 ?hg (N:=72) ?hd (xs:=([]:List (S77))) (inner:=[]) (ok:=fun _=>True) (okp:=fun _=>True) ?hr ?hp (fun _ hk=>hk) trivial (Below.refl _ _) (Nat.le_refl _) (by simp) ?_;(case hd=>rfl);(case hg=>rfl);(case hr=>first | (go_simp;done) | (go_simp;rfl));(case hp=>exact (Reps.none _ _));intro v118 w55 ho56 hb hg_ hnew_;clear hg_ hnew_;(first | rw [← Ny117.out] at ho56 | (simp only [Int.reduceToNat] at ho56;rw [← Ny117.out] at ho56));refine as6_ (Kd.R_elder' (z1_ HO_110001.out) (Kd.R_base ho56) hb) (Kd.R_lower (Kd.R_newB (Kd.R_new' ho56 (Kd.R_lt (z1_ HO_110001.out))) (g:=gb113) (o:=.cells #[.int .i64 t112,.int .i64 x6_1] 77 (0,0)) (z3_ BK113.out)) (below_size (z12_ HB.out GE108.out GE109.out GE113.out))) (blkB_ BK108.out hb) (blkB_ BK109.out hb) (blkB_ BK113.out hb) (below_step (z12_ HB.out GE108.out GE109.out GE113.out) hb) ?_;clear HO_110001 BK108 BK109 BK113 HB;intro HO_110001 HO119 BK108 BK109 BK113 HB;clear hb ho56;have hnb57:=NB109_108.out;have hnc57:=NB108_109.out;have hnb58:=NB109_113.out;have hnc58:=NB113_109.out;have ⟨hcz59_0,hcz59_1,hfz59_0,hfz59_1⟩:=cz2_ BK109.out;obtain ⟨Ao61,co61,eo61⟩:=Kd.R_slice HO_110001.out;subst eo61;have q60:(x9_3:Int)≤((x110001_2.length:Int):Int):=of_decide_eq_true (z0_);obtain ⟨i060,hi060,_,hsz60,_⟩:=info_parts info77;have hroom60:x110001_2.length≤co61:=(Kd.R_reads' HO_110001.out).2.1;have hC60:Kd.C k77 _ Ao61 x110001_2.length x110001_2:=(Kd.R_reads' HO_110001.out).2.2;have hcut60:=cut_to (P:=Tryd.prog) 22 77 .i64 Tryd.underlying22 hi060 Ao61 x110001_2.length co61 x9_3 (of_decide_eq_true (z0_)) q60 hroom60;have hr60:=Kd.C_take (m:=(x9_3:Int).toNat) hC60 (by omega);have hy60:y120.length=(x9_3:Int).toNat:=(by rw [Ny120.out,List.length_take];omega);rw [← Ny120.out] at hr60;rw [← hy60] at hcut60;have HR123:=Aside0.mk hr60;have HC123:=Aside0.mk (show y120.length≤co61 from by omega);clear hr60 hC60 hroom60 hi060 hsz60;have KY60:=Aside0.mk hy60;clear hy60;have KL60:=Aside0.mk (show (x9_3:Int).toNat≤x110001_2.length from by omega);replace q60:=eq_true q60) | ((with_reducible refine gate_builtin (b:=.append) (xs:=#[.tmp 72,.tmp 76]) rfl ?_);at_builtin;refine Kd.R_append_rows k77 (w0:=w) w.heap.size rfl (.tmp 72) (.tmp 76) 22 77 (.agg #[(.int .i64 0),(.int .i64 0)]) 16 rfl Tryd.underlying22 info77 rfl (by decide) (by omega) v118 y117 y120 _ _ _ (fun k_=>some k_≠(.slice Ao61 x110001_2.length co61:Value).ownBlock∧k_≠gb113) (fun _=>False) rfl rfl ?aO ?aR (fun _ _ h=>h) (fun _ h=>h.elim) ?aF ?aB ?aS ?aL ?_;(case aR=>repeat (first | exact (z32_ HR123.out) | (with_reducible refine Kd.C_alloc ?_ _) | (with_reducible refine Kd.C_drewN ?_ _) | (with_reducible refine Kd.C_drew ?_)));(case aB=>exact (z12_ HB.out GE108.out GE109.out GE113.out));(case aF=>exact (fun k_ hk=>⟨Kd.fresh' (Kd.R_lt (z1_ HO_110001.out)) k_ hk,Kd.freshB (g:=gb113) (o:=.cells #[.int .i64 t112,.int .i64 x6_1] 77 (0,0)) (z3_ BK113.out) k_ hk⟩));(case aO=>exact (z33_ HO119.out));(case aS=>exact (below_size (z12_ HB.out GE108.out GE109.out GE113.out)));(case aL=>have:=LMc50.out;omega);intro v125 w62 ho hb hg hat;rw [← Ny124.out] at ho;refine as7_ (Kd.R_after (ok:=(fun k_=>k_≠gb113)) (z1_ HO_110001.out) hg hat) (blk_grown (g:=gb108) (o:=.cells #[.int .i64 0,.slice none 0 0] 24 (0,0)) (z3_ BK108.out) hg (Kd.R_ne HO119.out BK108.out (by decide))) (blk_grown (g:=gb109) (o:=.cells #[.int .i64 a0,.slice Ao61 x110001_2.length co61] 24 (0,0)) (z3_ BK109.out) hg (Kd.R_ne HO119.out BK109.out (by decide))) (blk_grown (g:=gb113) (o:=.cells #[.int .i64 t112,.int .i64 x6_1] 77 (0,0)) (z3_ BK113.out) hg (Kd.R_away HO119.out (fun _ hk=>hk.2))) (hb) ((show Kd.C k77 w62 Ao61 y120.length y120 from by rw [Ny120.out];exact Kd.C_take (m:=(x9_3:Int).toNat) ((Kd.R_reads' (Kd.R_after (ok:=(fun k_=>k_≠gb113)) (z1_ HO_110001.out) hg hat)).2.2) KL60.out)) (ho) ?_;clear HO_110001 BK108 BK109 BK113 HB HR123 HO119;intro HO_110001 BK108 BK109 BK113 HB HR123 HO126;clear ho hb hg hat;have hnb63:=NB113_108.out;have hnc63:=NB108_113.out;have ⟨hcz64_0,hcz64_1,hfz64_0,hfz64_1⟩:=cz2_ BK113.out) | ((with_reducible refine gate_builtin (b:=.append) (xs:=#[.tmp 78,.tmp 80]) rfl ?_);at_builtin;refine Kd.R_append k77 (w0:=w) w.heap.size rfl (.tmp 78) (.tmp 80) 22 77 (.agg #[(.int .i64 0),(.int .i64 0)]) 16 rfl Tryd.underlying22 info77 rfl (by decide) (by omega) v125 y124 (⟨t112,x6_1⟩:S77) [.int .i64 t112,.int .i64 x6_1] (fun k_=>some k_≠(.slice Ao61 x110001_2.length co61:Value).ownBlock∧k_≠gb113) (fun _=>False) rfl rfl ?aP (fun _ hk=>hk.elim) ?aF ?aO ?aB ?aS ?aL ?_;(case aP=>exact k77_mkM _ _ _ (⟨t112,x6_1⟩:S77));(case aB=>exact (z12_ HB.out GE108.out GE109.out GE113.out));(case aF=>exact (fun k_ hk=>⟨Kd.fresh' (Kd.R_lt (z1_ HO_110001.out)) k_ hk,Kd.freshB (g:=gb113) (o:=.cells #[.int .i64 t112,.int .i64 x6_1] 77 (0,0)) (z3_ BK113.out) k_ hk⟩));(case aO=>exact (z1_ HO126.out));(case aS=>exact (below_size (z12_ HB.out GE108.out GE109.out GE113.out)));(case aL=>have:=LMc51.out;omega);intro v128 w65 ho hb hg hat;rw [← Ny127.out] at ho;refine as7_ (Kd.R_after (ok:=(fun k_=>k_≠gb113)) (z1_ HO_110001.out) hg hat) (blk_grown (g:=gb108) (o:=.cells #[.int .i64 0,.slice none 0 0] 24 (0,0)) (z3_ BK108.out) hg (Kd.R_ne HO126.out BK108.out (by decide))) (blk_grown (g:=gb109) (o:=.cells #[.int .i64 a0,.slice Ao61 x110001_2.length co61] 24 (0,0)) (z3_ BK109.out) hg (Kd.R_ne HO126.out BK109.out (by decide))) (blk_grown (g:=gb113) (o:=.cells #[.int .i64 t112,.int .i64 x6_1] 77 (0,0)) (z3_ BK113.out) hg (Kd.R_away HO126.out (fun _ hk=>hk.2))) (hb) ((show Kd.C k77 w65 Ao61 y120.length y120 from by rw [Ny120.out];exact Kd.C_take (m:=(x9_3:Int).toNat) ((Kd.R_reads' (Kd.R_after (ok:=(fun k_=>k_≠gb113)) (z1_ HO_110001.out) hg hat)).2.2) KL60.out)) (ho) ?_;clear HO_110001 BK108 BK109 BK113 HB HR123 HO126;intro HO_110001 BK108 BK109 BK113 HB HR123 HO129;clear ho hb hg hat;have ⟨hcz66_0,hcz66_1,hfz66_0,hfz66_1⟩:=cz2_ BK109.out;have q67:(x9_3:Int)≤((x110001_2.length:Int):Int):=of_decide_eq_true (z0_);obtain ⟨i067,hi067,_,hsz67,_⟩:=info_parts info77;have hroom67:x110001_2.length≤co61:=(Kd.R_reads' HO_110001.out).2.1;have hC67:Kd.C k77 _ Ao61 x110001_2.length x110001_2:=(Kd.R_reads' HO_110001.out).2.2;have q067:(0:Int)≤(x9_3:Int):=of_decide_eq_true (z0_);have hcut67:=cut_from (P:=Tryd.prog) 22 77 .i64 Tryd.underlying22 hi067 2 hsz67 Ao61 x110001_2.length co61 x9_3 q067 q67;have hr67:=Kd.C_drop (m:=(x9_3:Int).toNat) (c:=co61) hC67 (by omega) hroom67;obtain ⟨A67,hA67⟩:∃ A1,A1=(if co61=(x9_3:Int).toNat then Ao61 else (Ao61:Option Addr).map (·.add ((x9_3:Int).toNat*2))):=⟨_,rfl⟩;obtain ⟨c67,hc67⟩:∃ c1,c1=co61-(x9_3:Int).toNat:=⟨_,rfl⟩;have hy67:y130.length=x110001_2.length-(x9_3:Int).toNat:=(by rw [Ny130.out,List.length_drop] <;> omega);rw [show (x110001_2).drop (x9_3:Int).toNat=y130 from Ny130.out.symm] at hr67;replace hr67:Kd.C k77 _ A67 y130.length y130:=(by rw [hA67];exact hr67);rw [← hy67,← hA67,← hc67] at hcut67;have HR133:=Aside0.mk hr67;have HC133:=Aside0.mk (show y130.length≤c67 from by rw [hy67,hc67];exact Nat.sub_le_sub_right hroom67 _);clear hr67 hC67 hroom67 hi067 hsz67 hc67;have KY67:=Aside0.mk hy67;have KA67:=Aside0.mk hA67;clear hy67 hA67;have KL67:=Aside0.mk (show (x9_3:Int).toNat≤x110001_2.length from by omega);replace q67:=eq_true q67) | ((with_reducible refine gate_builtin (b:=.append) (xs:=#[.tmp 82,.tmp 86]) rfl ?_);at_builtin;refine Kd.R_append_rows k77 (w0:=w) w.heap.size rfl (.tmp 82) (.tmp 86) 22 77 (.agg #[(.int .i64 0),(.int .i64 0)]) 16 rfl Tryd.underlying22 info77 rfl (by decide) (by omega) v128 y127 y130 _ _ _ (fun k_=>some k_≠(.slice Ao61 x110001_2.length co61:Value).ownBlock∧k_≠gb113) (fun _=>False) rfl rfl ?aO ?aR (fun _ _ h=>h) (fun _ h=>h.elim) ?aF ?aB ?aS ?aL ?_;(case aR=>repeat (first | exact (z32_ HR133.out) | (with_reducible refine Kd.C_alloc ?_ _) | (with_reducible refine Kd.C_drewN ?_ _) | (with_reducible refine Kd.C_drew ?_)));(case aB=>exact (z12_ HB.out GE108.out GE109.out GE113.out));(case aF=>exact (fun k_ hk=>⟨Kd.fresh' (Kd.R_lt (z1_ HO_110001.out)) k_ hk,Kd.freshB (g:=gb113) (o:=.cells #[.int .i64 t112,.int .i64 x6_1] 77 (0,0)) (z3_ BK113.out) k_ hk⟩));(case aO=>exact (z1_ HO129.out));(case aS=>exact (below_size (z12_ HB.out GE108.out GE109.out GE113.out)));(case aL=>have:=LMc54.out;omega);intro v135 w68 ho hb hg hat;rw [← Ny134.out] at ho;refine as8_ (Kd.R_after (ok:=(fun k_=>k_≠gb113)) (z1_ HO_110001.out) hg hat) (blk_grown (g:=gb108) (o:=.cells #[.int .i64 0,.slice none 0 0] 24 (0,0)) (z3_ BK108.out) hg (Kd.R_ne HO129.out BK108.out (by decide))) (blk_grown (g:=gb109) (o:=.cells #[.int .i64 a0,.slice Ao61 x110001_2.length co61] 24 (0,0)) (z3_ BK109.out) hg (Kd.R_ne HO129.out BK109.out (by decide))) (blk_grown (g:=gb113) (o:=.cells #[.int .i64 t112,.int .i64 x6_1] 77 (0,0)) (z3_ BK113.out) hg (Kd.R_away HO129.out (fun _ hk=>hk.2))) (hb) ((show Kd.C k77 w68 Ao61 y120.length y120 from by rw [Ny120.out];exact Kd.C_take (m:=(x9_3:Int).toNat) ((Kd.R_reads' (Kd.R_after (ok:=(fun k_=>k_≠gb113)) (z1_ HO_110001.out) hg hat)).2.2) KL60.out)) ((show Kd.C k77 w68 A67 y130.length y130 from by rw [Ny130.out,KA67.out];exact Kd.C_drop (m:=(x9_3:Int).toNat) (c:=co61) ((Kd.R_reads' (Kd.R_after (ok:=(fun k_=>k_≠gb113)) (z1_ HO_110001.out) hg hat)).2.2) KL67.out ((Kd.R_reads' (Kd.R_after (ok:=(fun k_=>k_≠gb113)) (z1_ HO_110001.out) hg hat)).2.1))) (ho) ?_;clear HO_110001 BK108 BK109 BK113 HB HR123 HR133 HO129;intro HO_110001 BK108 BK109 BK113 HB HR123 HR133 HO136;clear ho hb hg hat;obtain ⟨Ao69,co69,eo69⟩:=Kd.R_slice HO136.out;subst eo69;have ⟨hcz70_0,hcz70_1,hfz70_0,hfz70_1⟩:=cz2_ BK109.out))
                   repeat (go_quiet (first | ((with_reducible refine gd_ 72 ?_);refine Kd.R_lit k77 _ 77 ?hg (N:=72) ?hd (xs:=([]:List (S77))) (inner:=[]) (ok:=fun _=>True) (okp:=fun _=>True) ?hr ?hp (fun _ hk=>hk) trivial (Below.refl _ _) (Nat.le_refl _) (by simp) ?_;(case hd=>rfl);(case hg=>rfl);(case hr=>first | (go_simp;done) | (go_simp;rfl));(case hp=>exact (Reps.none _ _));intro v118 w55 ho56 hb hg_ hnew_;clear hg_ hnew_;(first | rw [← Ny117.out] at ho56 | (simp only [Int.reduceToNat] at ho56;rw [← Ny117.out] at ho56));refine as6_ (Kd.R_elder' (z1_ HO_110001.out) (Kd.R_base ho56) hb) (Kd.R_lower (Kd.R_newB (Kd.R_new' ho56 (Kd.R_lt (z1_ HO_110001.out))) (g:=gb113) (o:=.cells #[.int .i64 t112,.int .i64 x6_1] 77 (0,0)) (z3_ BK113.out)) (below_size (z12_ HB.out GE108.out GE109.out GE113.out))) (blkB_ BK108.out hb) (blkB_ BK109.out hb) (blkB_ BK113.out hb) (below_step (z12_ HB.out GE108.out GE109.out GE113.out) hb) ?_;clear HO_110001 BK108 BK109 BK113 HB;intro HO_110001 HO119 BK108 BK109 BK113 HB;clear hb ho56;have hnb57:=NB109_108.out;have hnc57:=NB108_109.out;have hnb58:=NB109_113.out;have hnc58:=NB113_109.out;have ⟨hcz59_0,hcz59_1,hfz59_0,hfz59_1⟩:=cz2_ BK109.out;obtain ⟨Ao61,co61,eo61⟩:=Kd.R_slice HO_110001.out;subst eo61;have q60:(x9_3:Int)≤((x110001_2.length:Int):Int):=of_decide_eq_true (z0_);obtain ⟨i060,hi060,_,hsz60,_⟩:=info_parts info77;have hroom60:x110001_2.length≤co61:=(Kd.R_reads' HO_110001.out).2.1;have hC60:Kd.C k77 _ Ao61 x110001_2.length x110001_2:=(Kd.R_reads' HO_110001.out).2.2;have hcut60:=cut_to (P:=Tryd.prog) 22 77 .i64 Tryd.underlying22 hi060 Ao61 x110001_2.length co61 x9_3 (of_decide_eq_true (z0_)) q60 hroom60;have hr60:=Kd.C_take (m:=(x9_3:Int).toNat) hC60 (by omega);have hy60:y120.length=(x9_3:Int).toNat:=(by rw [Ny120.out,List.length_take];omega);rw [← Ny120.out] at hr60;rw [← hy60] at hcut60;have HR123:=Aside0.mk hr60;have HC123:=Aside0.mk (show y120.length≤co61 from by omega);clear hr60 hC60 hroom60 hi060 hsz60;have KY60:=Aside0.mk hy60;clear hy60;have KL60:=Aside0.mk (show (x9_3:Int).toNat≤x110001_2.length from by omega);replace q60:=eq_true q60) | ((with_reducible refine gate_builtin (b:=.append) (xs:=#[.tmp 72,.tmp 76]) rfl ?_);at_builtin;refine Kd.R_append_rows k77 (w0:=w) w.heap.size rfl (.tmp 72) (.tmp 76) 22 77 (.agg #[(.int .i64 0),(.int .i64 0)]) 16 rfl Tryd.underlying22 info77 rfl (by decide) (by omega) v118 y117 y120 _ _ _ (fun k_=>some k_≠(.slice Ao61 x110001_2.length co61:Value).ownBlock∧k_≠gb113) (fun _=>False) rfl rfl ?aO ?aR (fun _ _ h=>h) (fun _ h=>h.elim) ?aF ?aB ?aS ?aL ?_;(case aR=>repeat (first | exact (z32_ HR123.out) | (with_reducible refine Kd.C_alloc ?_ _) | (with_reducible refine Kd.C_drewN ?_ _) | (with_reducible refine Kd.C_drew ?_)));(case aB=>exact (z12_ HB.out GE108.out GE109.out GE113.out));(case aF=>exact (fun k_ hk=>⟨Kd.fresh' (Kd.R_lt (z1_ HO_110001.out)) k_ hk,Kd.freshB (g:=gb113) (o:=.cells #[.int .i64 t112,.int .i64 x6_1] 77 (0,0)) (z3_ BK113.out) k_ hk⟩));(case aO=>exact (z33_ HO119.out));(case aS=>exact (below_size (z12_ HB.out GE108.out GE109.out GE113.out)));(case aL=>have:=LMc50.out;omega);intro v125 w62 ho hb hg hat;rw [← Ny124.out] at ho;refine as7_ (Kd.R_after (ok:=(fun k_=>k_≠gb113)) (z1_ HO_110001.out) hg hat) (blk_grown (g:=gb108) (o:=.cells #[.int .i64 0,.slice none 0 0] 24 (0,0)) (z3_ BK108.out) hg (Kd.R_ne HO119.out BK108.out (by decide))) (blk_grown (g:=gb109) (o:=.cells #[.int .i64 a0,.slice Ao61 x110001_2.length co61] 24 (0,0)) (z3_ BK109.out) hg (Kd.R_ne HO119.out BK109.out (by decide))) (blk_grown (g:=gb113) (o:=.cells #[.int .i64 t112,.int .i64 x6_1] 77 (0,0)) (z3_ BK113.out) hg (Kd.R_away HO119.out (fun _ hk=>hk.2))) (hb) ((show Kd.C k77 w62 Ao61 y120.length y120 from by rw [Ny120.out];exact Kd.C_take (m:=(x9_3:Int).toNat) ((Kd.R_reads' (Kd.R_after (ok:=(fun k_=>k_≠gb113)) (z1_ HO_110001.out) hg hat)).2.2) KL60.out)) (ho) ?_;clear HO_110001 BK108 BK109 BK113 HB HR123 HO119;intro HO_110001 BK108 BK109 BK113 HB HR123 HO126;clear ho hb hg hat;have hnb63:=NB113_108.out;have hnc63:=NB108_113.out;have ⟨hcz64_0,hcz64_1,hfz64_0,hfz64_1⟩:=cz2_ BK113.out) | ((with_reducible refine gate_builtin (b:=.append) (xs:=#[.tmp 78,.tmp 80]) rfl ?_);at_builtin;refine Kd.R_append k77 (w0:=w) w.heap.size rfl (.tmp 78) (.tmp 80) 22 77 (.agg #[(.int .i64 0),(.int .i64 0)]) 16 rfl Tryd.underlying22 info77 rfl (by decide) (by omega) v125 y124 (⟨t112,x6_1⟩:S77) [.int .i64 t112,.int .i64 x6_1] (fun k_=>some k_≠(.slice Ao61 x110001_2.length co61:Value).ownBlock∧k_≠gb113) (fun _=>False) rfl rfl ?aP (fun _ hk=>hk.elim) ?aF ?aO ?aB ?aS ?aL ?_;(case aP=>exact k77_mkM _ _ _ (⟨t112,x6_1⟩:S77));(case aB=>exact (z12_ HB.out GE108.out GE109.out GE113.out));(case aF=>exact (fun k_ hk=>⟨Kd.fresh' (Kd.R_lt (z1_ HO_110001.out)) k_ hk,Kd.freshB (g:=gb113) (o:=.cells #[.int .i64 t112,.int .i64 x6_1] 77 (0,0)) (z3_ BK113.out) k_ hk⟩));(case aO=>exact (z1_ HO126.out));(case aS=>exact (below_size (z12_ HB.out GE108.out GE109.out GE113.out)));(case aL=>have:=LMc51.out;omega);intro v128 w65 ho hb hg hat;rw [← Ny127.out] at ho;refine as7_ (Kd.R_after (ok:=(fun k_=>k_≠gb113)) (z1_ HO_110001.out) hg hat) (blk_grown (g:=gb108) (o:=.cells #[.int .i64 0,.slice none 0 0] 24 (0,0)) (z3_ BK108.out) hg (Kd.R_ne HO126.out BK108.out (by decide))) (blk_grown (g:=gb109) (o:=.cells #[.int .i64 a0,.slice Ao61 x110001_2.length co61] 24 (0,0)) (z3_ BK109.out) hg (Kd.R_ne HO126.out BK109.out (by decide))) (blk_grown (g:=gb113) (o:=.cells #[.int .i64 t112,.int .i64 x6_1] 77 (0,0)) (z3_ BK113.out) hg (Kd.R_away HO126.out (fun _ hk=>hk.2))) (hb) ((show Kd.C k77 w65 Ao61 y120.length y120 from by rw [Ny120.out];exact Kd.C_take (m:=(x9_3:Int).toNat) ((Kd.R_reads' (Kd.R_after (ok:=(fun k_=>k_≠gb113)) (z1_ HO_110001.out) hg hat)).2.2) KL60.out)) (ho) ?_;clear HO_110001 BK108 BK109 BK113 HB HR123 HO126;intro HO_110001 BK108 BK109 BK113 HB HR123 HO129;clear ho hb hg hat;have ⟨hcz66_0,hcz66_1,hfz66_0,hfz66_1⟩:=cz2_ BK109.out;have q67:(x9_3:Int)≤((x110001_2.length:Int):Int):=of_decide_eq_true (z0_);obtain ⟨i067,hi067,_,hsz67,_⟩:=info_parts info77;have hroom67:x110001_2.length≤co61:=(Kd.R_reads' HO_110001.out).2.1;have hC67:Kd.C k77 _ Ao61 x110001_2.length x110001_2:=(Kd.R_reads' HO_110001.out).2.2;have q067:(0:Int)≤(x9_3:Int):=of_decide_eq_true (z0_);have hcut67:=cut_from (P:=Tryd.prog) 22 77 .i64 Tryd.underlying22 hi067 2 hsz67 Ao61 x110001_2.length co61 x9_3 q067 q67;have hr67:=Kd.C_drop (m:=(x9_3:Int).toNat) (c:=co61) hC67 (by omega) hroom67;obtain ⟨A67,hA67⟩:∃ A1,A1=(if co61=(x9_3:Int).toNat then Ao61 else (Ao61:Option Addr).map (·.add ((x9_3:Int).toNat*2))):=⟨_,rfl⟩;obtain ⟨c67,hc67⟩:∃ c1,c1=co61-(x9_3:Int).toNat:=⟨_,rfl⟩;have hy67:y130.length=x110001_2.length-(x9_3:Int).toNat:=(by rw [Ny130.out,List.length_drop] <;> omega);rw [show (x110001_2).drop (x9_3:Int).toNat=y130 from Ny130.out.symm] at hr67;replace hr67:Kd.C k77 _ A67 y130.length y130:=(by rw [hA67];exact hr67);rw [← hy67,← hA67,← hc67] at hcut67;have HR133:=Aside0.mk hr67;have HC133:=Aside0.mk (show y130.length≤c67 from by rw [hy67,hc67];exact Nat.sub_le_sub_right hroom67 _);clear hr67 hC67 hroom67 hi067 hsz67 hc67;have KY67:=Aside0.mk hy67;have KA67:=Aside0.mk hA67;clear hy67 hA67;have KL67:=Aside0.mk (show (x9_3:Int).toNat≤x110001_2.length from by omega);replace q67:=eq_true q67) | ((with_reducible refine gate_builtin (b:=.append) (xs:=#[.tmp 82,.tmp 86]) rfl ?_);at_builtin;refine Kd.R_append_rows k77 (w0:=w) w.heap.size rfl (.tmp 82) (.tmp 86) 22 77 (.agg #[(.int .i64 0),(.int .i64 0)]) 16 rfl Tryd.underlying22 info77 rfl (by decide) (by omega) v128 y127 y130 _ _ _ (fun k_=>some k_≠(.slice Ao61 x110001_2.length co61:Value).ownBlock∧k_≠gb113) (fun _=>False) rfl rfl ?aO ?aR (fun _ _ h=>h) (fun _ h=>h.elim) ?aF ?aB ?aS ?aL ?_;(case aR=>repeat (first | exact (z32_ HR133.out) | (with_reducible refine Kd.C_alloc ?_ _) | (with_reducible refine Kd.C_drewN ?_ _) | (with_reducible refine Kd.C_drew ?_)));(case aB=>exact (z12_ HB.out GE108.out GE109.out GE113.out));(case aF=>exact (fun k_ hk=>⟨Kd.fresh' (Kd.R_lt (z1_ HO_110001.out)) k_ hk,Kd.freshB (g:=gb113) (o:=.cells #[.int .i64 t112,.int .i64 x6_1] 77 (0,0)) (z3_ BK113.out) k_ hk⟩));(case aO=>exact (z1_ HO129.out));(case aS=>exact (below_size (z12_ HB.out GE108.out GE109.out GE113.out)));(case aL=>have:=LMc54.out;omega);intro v135 w68 ho hb hg hat;rw [← Ny134.out] at ho;refine as8_ (Kd.R_after (ok:=(fun k_=>k_≠gb113)) (z1_ HO_110001.out) hg hat) (blk_grown (g:=gb108) (o:=.cells #[.int .i64 0,.slice none 0 0] 24 (0,0)) (z3_ BK108.out) hg (Kd.R_ne HO129.out BK108.out (by decide))) (blk_grown (g:=gb109) (o:=.cells #[.int .i64 a0,.slice Ao61 x110001_2.length co61] 24 (0,0)) (z3_ BK109.out) hg (Kd.R_ne HO129.out BK109.out (by decide))) (blk_grown (g:=gb113) (o:=.cells #[.int .i64 t112,.int .i64 x6_1] 77 (0,0)) (z3_ BK113.out) hg (Kd.R_away HO129.out (fun _ hk=>hk.2))) (hb) ((show Kd.C k77 w68 Ao61 y120.length y120 from by rw [Ny120.out];exact Kd.C_take (m:=(x9_3:Int).toNat) ((Kd.R_reads' (Kd.R_after (ok:=(fun k_=>k_≠gb113)) (z1_ HO_110001.out) hg hat)).2.2) KL60.out)) ((show Kd.C k77 w68 A67 y130.length y130 from by rw [Ny130.out,KA67.out];exact Kd.C_drop (m:=(x9_3:Int).toNat) (c:=co61) ((Kd.R_reads' (Kd.R_after (ok:=(fun k_=>k_≠gb113)) (z1_ HO_110001.out) hg hat)).2.2) KL67.out ((Kd.R_reads' (Kd.R_after (ok:=(fun k_=>k_≠gb113)) (z1_ HO_110001.out) hg hat)).2.1))) (ho) ?_;clear HO_110001 BK108 BK109 BK113 HB HR123 HR133 HO129;intro HO_110001 BK108 BK109 BK113 HB HR123 HR133 HO136;clear ho hb hg hat;obtain ⟨Ao69,co69,eo69⟩:=Kd.R_slice HO136.out;subst eo69;have ⟨hcz70_0,hcz70_1,hfz70_0,hfz70_1⟩:=cz2_ BK109.out));try go_wp2_with (first | ((with_reducible refine gd_ 72 ?_);refine Kd.R_lit k77 _ 77 ?hg (N:=72) ?hd (xs:=([]:List (S77))) (inner:=[]) (ok:=fun _=>True) (okp:=fun _=>True) ?hr ?hp (fun _ hk=>hk) trivial (Below.refl _ _) (Nat.le_refl _) (by simp) ?_;(case hd=>rfl);(case hg=>rfl);(case hr=>first | (go_simp;done) | (go_simp;rfl));(case hp=>exact (Reps.none _ _));intro v118 w55 ho56 hb hg_ hnew_;clear hg_ hnew_;(first | rw [← Ny117.out] at ho56 | (simp only [Int.reduceToNat] at ho56;rw [← Ny117.out] at ho56));refine as6_ (Kd.R_elder' (z1_ HO_110001.out) (Kd.R_base ho56) hb) (Kd.R_lower (Kd.R_newB (Kd.R_new' ho56 (Kd.R_lt (z1_ HO_110001.out))) (g:=gb113) (o:=.cells #[.int .i64 t112,.int .i64 x6_1] 77 (0,0)) (z3_ BK113.out)) (below_size (z12_ HB.out GE108.out GE109.out GE113.out))) (blkB_ BK108.out hb) (blkB_ BK109.out hb) (blkB_ BK113.out hb) (below_step (z12_ HB.out GE108.out GE109.out GE113.out) hb) ?_;clear HO_110001 BK108 BK109 BK113 HB;intro HO_110001 HO119 BK108 BK109 BK113 HB;clear hb ho56;have hnb57:=NB109_108.out;have hnc57:=NB108_109.out;have hnb58:=NB109_113.out;have hnc58:=NB113_109.out;have ⟨hcz59_0,hcz59_1,hfz59_0,hfz59_1⟩:=cz2_ BK109.out;obtain ⟨Ao61,co61,eo61⟩:=Kd.R_slice HO_110001.out;subst eo61;have q60:(x9_3:Int)≤((x110001_2.length:Int):Int):=of_decide_eq_true (z0_);obtain ⟨i060,hi060,_,hsz60,_⟩:=info_parts info77;have hroom60:x110001_2.length≤co61:=(Kd.R_reads' HO_110001.out).2.1;have hC60:Kd.C k77 _ Ao61 x110001_2.length x110001_2:=(Kd.R_reads' HO_110001.out).2.2;have hcut60:=cut_to (P:=Tryd.prog) 22 77 .i64 Tryd.underlying22 hi060 Ao61 x110001_2.length co61 x9_3 (of_decide_eq_true (z0_)) q60 hroom60;have hr60:=Kd.C_take (m:=(x9_3:Int).toNat) hC60 (by omega);have hy60:y120.length=(x9_3:Int).toNat:=(by rw [Ny120.out,List.length_take];omega);rw [← Ny120.out] at hr60;rw [← hy60] at hcut60;have HR123:=Aside0.mk hr60;have HC123:=Aside0.mk (show y120.length≤co61 from by omega);clear hr60 hC60 hroom60 hi060 hsz60;have KY60:=Aside0.mk hy60;clear hy60;have KL60:=Aside0.mk (show (x9_3:Int).toNat≤x110001_2.length from by omega);replace q60:=eq_true q60) | ((with_reducible refine gate_builtin (b:=.append) (xs:=#[.tmp 72,.tmp 76]) rfl ?_);at_builtin;refine Kd.R_append_rows k77 (w0:=w) w.heap.size rfl (.tmp 72) (.tmp 76) 22 77 (.agg #[(.int .i64 0),(.int .i64 0)]) 16 rfl Tryd.underlying22 info77 rfl (by decide) (by omega) v118 y117 y120 _ _ _ (fun k_=>some k_≠(.slice Ao61 x110001_2.length co61:Value).ownBlock∧k_≠gb113) (fun _=>False) rfl rfl ?aO ?aR (fun _ _ h=>h) (fun _ h=>h.elim) ?aF ?aB ?aS ?aL ?_;(case aR=>repeat (first | exact (z32_ HR123.out) | (with_reducible refine Kd.C_alloc ?_ _) | (with_reducible refine Kd.C_drewN ?_ _) | (with_reducible refine Kd.C_drew ?_)));(case aB=>exact (z12_ HB.out GE108.out GE109.out GE113.out));(case aF=>exact (fun k_ hk=>⟨Kd.fresh' (Kd.R_lt (z1_ HO_110001.out)) k_ hk,Kd.freshB (g:=gb113) (o:=.cells #[.int .i64 t112,.int .i64 x6_1] 77 (0,0)) (z3_ BK113.out) k_ hk⟩));(case aO=>exact (z33_ HO119.out));(case aS=>exact (below_size (z12_ HB.out GE108.out GE109.out GE113.out)));(case aL=>have:=LMc50.out;omega);intro v125 w62 ho hb hg hat;rw [← Ny124.out] at ho;refine as7_ (Kd.R_after (ok:=(fun k_=>k_≠gb113)) (z1_ HO_110001.out) hg hat) (blk_grown (g:=gb108) (o:=.cells #[.int .i64 0,.slice none 0 0] 24 (0,0)) (z3_ BK108.out) hg (Kd.R_ne HO119.out BK108.out (by decide))) (blk_grown (g:=gb109) (o:=.cells #[.int .i64 a0,.slice Ao61 x110001_2.length co61] 24 (0,0)) (z3_ BK109.out) hg (Kd.R_ne HO119.out BK109.out (by decide))) (blk_grown (g:=gb113) (o:=.cells #[.int .i64 t112,.int .i64 x6_1] 77 (0,0)) (z3_ BK113.out) hg (Kd.R_away HO119.out (fun _ hk=>hk.2))) (hb) ((show Kd.C k77 w62 Ao61 y120.length y120 from by rw [Ny120.out];exact Kd.C_take (m:=(x9_3:Int).toNat) ((Kd.R_reads' (Kd.R_after (ok:=(fun k_=>k_≠gb113)) (z1_ HO_110001.out) hg hat)).2.2) KL60.out)) (ho) ?_;clear HO_110001 BK108 BK109 BK113 HB HR123 HO119;intro HO_110001 BK108 BK109 BK113 HB HR123 HO126;clear ho hb hg hat;have hnb63:=NB113_108.out;have hnc63:=NB108_113.out;have ⟨hcz64_0,hcz64_1,hfz64_0,hfz64_1⟩:=cz2_ BK113.out) | ((with_reducible refine gate_builtin (b:=.append) (xs:=#[.tmp 78,.tmp 80]) rfl ?_);at_builtin;refine Kd.R_append k77 (w0:=w) w.heap.size rfl (.tmp 78) (.tmp 80) 22 77 (.agg #[(.int .i64 0),(.int .i64 0)]) 16 rfl Tryd.underlying22 info77 rfl (by decide) (by omega) v125 y124 (⟨t112,x6_1⟩:S77) [.int .i64 t112,.int .i64 x6_1] (fun k_=>some k_≠(.slice Ao61 x110001_2.length co61:Value).ownBlock∧k_≠gb113) (fun _=>False) rfl rfl ?aP (fun _ hk=>hk.elim) ?aF ?aO ?aB ?aS ?aL ?_;(case aP=>exact k77_mkM _ _ _ (⟨t112,x6_1⟩:S77));(case aB=>exact (z12_ HB.out GE108.out GE109.out GE113.out));(case aF=>exact (fun k_ hk=>⟨Kd.fresh' (Kd.R_lt (z1_ HO_110001.out)) k_ hk,Kd.freshB (g:=gb113) (o:=.cells #[.int .i64 t112,.int .i64 x6_1] 77 (0,0)) (z3_ BK113.out) k_ hk⟩));(case aO=>exact (z1_ HO126.out));(case aS=>exact (below_size (z12_ HB.out GE108.out GE109.out GE113.out)));(case aL=>have:=LMc51.out;omega);intro v128 w65 ho hb hg hat;rw [← Ny127.out] at ho;refine as7_ (Kd.R_after (ok:=(fun k_=>k_≠gb113)) (z1_ HO_110001.out) hg hat) (blk_grown (g:=gb108) (o:=.cells #[.int .i64 0,.slice none 0 0] 24 (0,0)) (z3_ BK108.out) hg (Kd.R_ne HO126.out BK108.out (by decide))) (blk_grown (g:=gb109) (o:=.cells #[.int .i64 a0,.slice Ao61 x110001_2.length co61] 24 (0,0)) (z3_ BK109.out) hg (Kd.R_ne HO126.out BK109.out (by decide))) (blk_grown (g:=gb113) (o:=.cells #[.int .i64 t112,.int .i64 x6_1] 77 (0,0)) (z3_ BK113.out) hg (Kd.R_away HO126.out (fun _ hk=>hk.2))) (hb) ((show Kd.C k77 w65 Ao61 y120.length y120 from by rw [Ny120.out];exact Kd.C_take (m:=(x9_3:Int).toNat) ((Kd.R_reads' (Kd.R_after (ok:=(fun k_=>k_≠gb113)) (z1_ HO_110001.out) hg hat)).2.2) KL60.out)) (ho) ?_;clear HO_110001 BK108 BK109 BK113 HB HR123 HO126;intro HO_110001 BK108 BK109 BK113 HB HR123 HO129;clear ho hb hg hat;have ⟨hcz66_0,hcz66_1,hfz66_0,hfz66_1⟩:=cz2_ BK109.out;have q67:(x9_3:Int)≤((x110001_2.length:Int):Int):=of_decide_eq_true (z0_);obtain ⟨i067,hi067,_,hsz67,_⟩:=info_parts info77;have hroom67:x110001_2.length≤co61:=(Kd.R_reads' HO_110001.out).2.1;have hC67:Kd.C k77 _ Ao61 x110001_2.length x110001_2:=(Kd.R_reads' HO_110001.out).2.2;have q067:(0:Int)≤(x9_3:Int):=of_decide_eq_true (z0_);have hcut67:=cut_from (P:=Tryd.prog) 22 77 .i64 Tryd.underlying22 hi067 2 hsz67 Ao61 x110001_2.length co61 x9_3 q067 q67;have hr67:=Kd.C_drop (m:=(x9_3:Int).toNat) (c:=co61) hC67 (by omega) hroom67;obtain ⟨A67,hA67⟩:∃ A1,A1=(if co61=(x9_3:Int).toNat then Ao61 else (Ao61:Option Addr).map (·.add ((x9_3:Int).toNat*2))):=⟨_,rfl⟩;obtain ⟨c67,hc67⟩:∃ c1,c1=co61-(x9_3:Int).toNat:=⟨_,rfl⟩;have hy67:y130.length=x110001_2.length-(x9_3:Int).toNat:=(by rw [Ny130.out,List.length_drop] <;> omega);rw [show (x110001_2).drop (x9_3:Int).toNat=y130 from Ny130.out.symm] at hr67;replace hr67:Kd.C k77 _ A67 y130.length y130:=(by rw [hA67];exact hr67);rw [← hy67,← hA67,← hc67] at hcut67;have HR133:=Aside0.mk hr67;have HC133:=Aside0.mk (show y130.length≤c67 from by rw [hy67,hc67];exact Nat.sub_le_sub_right hroom67 _);clear hr67 hC67 hroom67 hi067 hsz67 hc67;have KY67:=Aside0.mk hy67;have KA67:=Aside0.mk hA67;clear hy67 hA67;have KL67:=Aside0.mk (show (x9_3:Int).toNat≤x110001_2.length from by omega);replace q67:=eq_true q67) | ((with_reducible refine gate_builtin (b:=.append) (xs:=#[.tmp 82,.tmp 86]) rfl ?_);at_builtin;refine Kd.R_append_rows k77 (w0:=w) w.heap.size rfl (.tmp 82) (.tmp 86) 22 77 (.agg #[(.int .i64 0),(.int .i64 0)]) 16 rfl Tryd.underlying22 info77 rfl (by decide) (by omega) v128 y127 y130 _ _ _ (fun k_=>some k_≠(.slice Ao61 x110001_2.length co61:Value).ownBlock∧k_≠gb113) (fun _=>False) rfl rfl ?aO ?aR (fun _ _ h=>h) (fun _ h=>h.elim) ?aF ?aB ?aS ?aL ?_;(case aR=>repeat (first | exact (z32_ HR133.out) | (with_reducible refine Kd.C_alloc ?_ _) | (with_reducible refine Kd.C_drewN ?_ _) | (with_reducible refine Kd.C_drew ?_)));(case aB=>exact (z12_ HB.out GE108.out GE109.out GE113.out));(case aF=>exact (fun k_ hk=>⟨Kd.fresh' (Kd.R_lt (z1_ HO_110001.out)) k_ hk,Kd.freshB (g:=gb113) (o:=.cells #[.int .i64 t112,.int .i64 x6_1] 77 (0,0)) (z3_ BK113.out) k_ hk⟩));(case aO=>exact (z1_ HO129.out));(case aS=>exact (below_size (z12_ HB.out GE108.out GE109.out GE113.out)));(case aL=>have:=LMc54.out;omega);intro v135 w68 ho hb hg hat;rw [← Ny134.out] at ho;refine as8_ (Kd.R_after (ok:=(fun k_=>k_≠gb113)) (z1_ HO_110001.out) hg hat) (blk_grown (g:=gb108) (o:=.cells #[.int .i64 0,.slice none 0 0] 24 (0,0)) (z3_ BK108.out) hg (Kd.R_ne HO129.out BK108.out (by decide))) (blk_grown (g:=gb109) (o:=.cells #[.int .i64 a0,.slice Ao61 x110001_2.length co61] 24 (0,0)) (z3_ BK109.out) hg (Kd.R_ne HO129.out BK109.out (by decide))) (blk_grown (g:=gb113) (o:=.cells #[.int .i64 t112,.int .i64 x6_1] 77 (0,0)) (z3_ BK113.out) hg (Kd.R_away HO129.out (fun _ hk=>hk.2))) (hb) ((show Kd.C k77 w68 Ao61 y120.length y120 from by rw [Ny120.out];exact Kd.C_take (m:=(x9_3:Int).toNat) ((Kd.R_reads' (Kd.R_after (ok:=(fun k_=>k_≠gb113)) (z1_ HO_110001.out) hg hat)).2.2) KL60.out)) ((show Kd.C k77 w68 A67 y130.length y130 from by rw [Ny130.out,KA67.out];exact Kd.C_drop (m:=(x9_3:Int).toNat) (c:=co61) ((Kd.R_reads' (Kd.R_after (ok:=(fun k_=>k_≠gb113)) (z1_ HO_110001.out) hg hat)).2.2) KL67.out ((Kd.R_reads' (Kd.R_after (ok:=(fun k_=>k_≠gb113)) (z1_ HO_110001.out) hg hat)).2.1))) (ho) ?_;clear HO_110001 BK108 BK109 BK113 HB HR123 HR133 HO129;intro HO_110001 BK108 BK109 BK113 HB HR123 HR133 HO136;clear ho hb hg hat;obtain ⟨Ao69,co69,eo69⟩:=Kd.R_slice HO136.out;subst eo69;have ⟨hcz70_0,hcz70_1,hfz70_0,hfz70_1⟩:=cz2_ BK109.out)))
                   go_roundg kj19
                   case measure=>have:=HK1.out;have:=HK2.out;have:=HK3.out;have:=HJ19.out;omega
                   case rel=>exact ⟨(wrap64 (x7_2+1)),(y134),(.slice Ao69 y134.length co69),(z2_),H',⟨by have:=HK1.out;have:=HK2.out;have:=HK3.out;have:=HJ19.out;omega⟩,⟨by (with_reducible repeat (first | apply Kd.R_alloc | apply Kd.R_drewN | apply Kd.R_drew));exact Kd.R_mono (Kd.R_far (p:=⟨gb109,1,none⟩) (Kd.R_types HO136.out BK109.out (by decide)) (fun _ hk=>hk.2) (.slice Ao69 y134.length co69)) (fun _ hk=>trivial)⟩,⟨z28_ NB108_109.out BK108.out⟩,⟨by (with_reducible repeat (first | refine blk_drewN ?_ _ | refine blk_drew ?_ | refine blk_alloc ?_ _));refine blk_put (cs:=#[.int .i64 a0,.slice Ao61 x110001_2.length co61]) ?_ 1 _ rfl;(with_reducible repeat (first | refine blk_drewN ?_ _ | refine blk_drew ?_ | refine blk_alloc ?_ _));exact BK109.out⟩,⟨z12_ HB.out GE108.out GE109.out GE113.out⟩⟩
                  ·rw [if_neg c54] at H
                   exact absurd H (by simp)
                 ·rw [if_neg c51] at H
                  exact absurd H (by simp)
                ·rw [if_neg c50] at H
                 exact absurd H (by simp)
               ·rw [if_neg c49] at H
                exact absurd H (by simp)
              ·rw [if_neg c48] at H
               exact absurd H (by simp)
        ·rw [if_neg c12] at H
         exact absurd H (by simp)
       ·rw [if_neg c10] at H
        exact absurd H (by simp)
      ·rw [if_neg c8] at H
       have c8b0:decide (x7_2≤a1)=false:=decide_eq_false c8
       clear c8
       have H':=Aside0.mk H
       clear H
       go_wp2
       repeat (go_quiet (fail);try go_wp2)
       go_roundg k2
       case measure=>have:=HK1.out;have:=HK2.out;omega
       case rel=>exact ⟨(wrap64 (x6_1+1)),(x110001_2),(u110001),(z2_),H',⟨z13_ HK1.out HK2.out⟩,⟨z1_ HO_110001.out⟩,⟨z3_ BK108.out⟩,⟨z3_ BK109.out⟩,⟨z5_ HB.out GE108.out GE109.out⟩⟩
   ·rw [if_neg c7] at H
    have c7b0:decide (x6_1≤a0)=false:=decide_eq_false c7
    clear c7
    simp only [Option.some.injEq,Prod.mk.injEq] at H
    obtain ⟨rfl,rfl⟩:=H
    have hnb71:=NB109_108.out
    have hnc71:=NB108_109.out
    have ⟨hcz72_0,hcz72_1,hfz72_0,hfz72_1⟩:=cz2_ BK109.out
    have ⟨hcz73_0,hcz73_1,hfz73_0,hfz73_1⟩:=cz2_ BK108.out
    obtain ⟨Ao74,co74,eo74⟩:=Kd.R_slice HO_110001.out
    subst eo74
    go_wp2
    repeat (go_quiet (fail);try go_wp2)
    refine bodyPost_ret (results_cell_row rfl _ _ gb108 24 #[.int .i64 a0,.slice Ao74 x110001_1.length co74] (0,0) _ rfl (z27_ BK108.out) Tryd.underlying24 rfl (by kernel_rfl)) rfl ?_
    exact ⟨_,z10_,z40_ HO_110001.out BK108.out,z5_ HB.out GE108.out GE109.out⟩


attribute [local go_sem high] eqA77
/-! ### spec_RingRight: function 51 -/
mutual
def spec_RingRight.j0:Nat→Bool→Int→List (S77)→Option (Bool)
 | 0,_,_,_=>none
 | k+1,x32,x373000,x373001=>if x32=true then (some false) else (if x373000=0 then (none) else ((spec_l04New.f k x373000 (wrap64 ((x373001.length:Int) / x373000))).bind fun bt374=>(spec_RingRight.l0 k 0 x373000 x373001 bt374.1 bt374.2)))
def spec_RingRight.l0:Nat→Int→Int→List (S77)→Int→List (S77)→Option (Bool)
 | 0,_,_,_,_,_=>none
 | k+1,x4,x373000,x373001,x379000,x379001=>if x4<(x373001.length:Int) then (if 0≤x4 then (if x4<(x379001.length:Int) then (if (!(((rd_T77 x373001 x4).f0) == ((rd_T77 x379001 x4).f0)) || (!(((rd_T77 x373001 x4).f1) == ((rd_T77 x379001 x4).f1))))=true then (some false) else (spec_RingRight.l0 k (wrap64 (x4+1)) x373000 x373001 x379000 x379001)) else (none)) else (none)) else (some true)
end
def spec_RingRight.f (k:Nat) (a0_0:Int) (l0_1:List (S77)):Option (Bool):=(spec_l02Node.f a0_0).bind fun t373=>(if t373=true then (if (l0_1.length:Int)<1 then (spec_RingRight.j0 k true a0_0 l0_1) else (if (l0_1.length:Int)>(wrap64 (8*a0_0)) then (spec_RingRight.j0 k true a0_0 l0_1) else (if a0_0=0 then (none) else (spec_RingRight.j0 k (((l0_1.length:Int) % a0_0) != 0) a0_0 l0_1)))) else (spec_RingRight.j0 k true a0_0 l0_1))
theorem spec_RingRight.mono_l:∀ k,(∀ y0 y1 y2,LeO (spec_RingRight.j0 k y0 y1 y2) (spec_RingRight.j0 (k+1) y0 y1 y2))∧(∀ y0 y1 y2 y3 y4,LeO (spec_RingRight.l0 k y0 y1 y2 y3 y4) (spec_RingRight.l0 (k+1) y0 y1 y2 y3 y4))
 | 0=>⟨fun _ _ _ r h=>by simp [spec_RingRight.j0] at h,fun _ _ _ _ _ r h=>by simp [spec_RingRight.l0] at h⟩
 | k+1=>by
  obtain ⟨ih0,ih1⟩:=spec_RingRight.mono_l k
  refine ⟨?_,?_⟩
  ·intro y0 y1 y2
   unfold spec_RingRight.j0
   repeat' first
   | (with_reducible exact ih0 _ _ _)
   | (with_reducible exact ih1 _ _ _ _ _)
   | (with_reducible exact spec_l04New.mono _ _ _)
   | (with_reducible exact LeO.refl _)
   | (with_reducible exact LeO.none _)
   | (with_reducible refine LeO.ite ?_ ?_)
   | (with_reducible refine LeO.bind ?_ (fun _=>?_))
   | exact ih0 _ _ _
   | exact ih1 _ _ _ _ _
   | exact spec_l04New.mono _ _ _
   | exact LeO.none _
   | refine LeO.ite ?_ ?_
   | refine LeO.bind ?_ (fun _=>?_)
  ·intro y0 y1 y2 y3 y4
   unfold spec_RingRight.l0
   repeat' first
   | (with_reducible exact ih0 _ _ _)
   | (with_reducible exact ih1 _ _ _ _ _)
   | (with_reducible exact spec_l04New.mono _ _ _)
   | (with_reducible exact LeO.refl _)
   | (with_reducible exact LeO.none _)
   | (with_reducible refine LeO.ite ?_ ?_)
   | (with_reducible refine LeO.bind ?_ (fun _=>?_))
   | exact ih0 _ _ _
   | exact ih1 _ _ _ _ _
   | exact spec_l04New.mono _ _ _
   | exact LeO.none _
   | refine LeO.ite ?_ ?_
   | refine LeO.bind ?_ (fun _=>?_)
theorem spec_RingRight.mono:∀ a0 a1 k,LeO (spec_RingRight.f k a0 a1) (spec_RingRight.f (k+1) a0 a1):=by
 intro a0 a1 k
 obtain ⟨ih0,ih1⟩:=spec_RingRight.mono_l k
 unfold spec_RingRight.f
 repeat' first
   | (with_reducible exact ih0 _ _ _)
   | (with_reducible exact ih1 _ _ _ _ _)
   | (with_reducible exact spec_l04New.mono _ _ _)
   | (with_reducible exact LeO.refl _)
   | (with_reducible exact LeO.none _)
   | (with_reducible refine LeO.ite ?_ ?_)
   | (with_reducible refine LeO.bind ?_ (fun _=>?_))
   | exact ih0 _ _ _
   | exact ih1 _ _ _ _ _
   | exact spec_l04New.mono _ _ _
   | exact LeO.none _
   | refine LeO.ite ?_ ?_
   | refine LeO.bind ?_ (fun _=>?_)
def spec_RingRight.T3:Bool × List (List Nat × List Nat):=(true,[([],[]),([0],[0]),([],[]),([2],[2]),([3],[3]),([],[]),([5],[5]),([4,6],[4,6]),([1,7],[1,7]),([],[]),([9,8,8,0,1,2,3,4,5,6,7,8,9],[8,9])])
def spec_RingRight.B3:List Nat:=[0,1,0,4,12,0,32,124,255,0,1023]
theorem spec_RingRight.tab3:rtab .any (opsOf Tryd.f51 3)=spec_RingRight.T3:=by kernel_rfl
theorem spec_RingRight.bits3:waitsOk spec_RingRight.T3.2 spec_RingRight.B3=true:=by kernel_rfl
def spec_RingRight.T7:Bool × List (List Nat × List Nat):=(true,[([],[]),([0],[0]),([],[]),([1,2],[1,2]),([3],[3]),([],[]),([5],[5]),([],[]),([6,7],[6,7]),([8],[8]),([4,9],[4,9])])
def spec_RingRight.B7:List Nat:=[0,1,0,7,15,0,32,0,224,480,1023]
theorem spec_RingRight.tab7:rtab .any (opsOf Tryd.f51 7)=spec_RingRight.T7:=by kernel_rfl
theorem spec_RingRight.bits7:waitsOk spec_RingRight.T7.2 spec_RingRight.B7=true:=by kernel_rfl
set_option maxHeartbeats 8000000 in
set_option maxRecDepth 100000 in
theorem spec_RingRight.calls (k:Nat) (a0_0:Int) (A0_1:Option Addr) (c0_1:Nat) (l0_1:List (S77)) (r:Bool) (w:World) (hr0_1:Kd.C k77 w A0_1 l0_1.length l0_1) (hc0_1:l0_1.length≤c0_1) (h:spec_RingRight.f k a0_0 l0_1=some r) :
  Calls Tryd.prog 51 #[.agg #[.int .i64 a0_0,.slice A0_1 l0_1.length c0_1]] w fun e w'=>e = .returned (.bool r)∧Below w.heap.size w w':=by
 have hu24:=Tryd.underlying24
 have hu77:=Tryd.underlying77
 have HR0_1:=Aside0.mk hr0_1
 have HC0_1:=Aside0.mk hc0_1
 clear hr0_1 hc0_1
 have HB:=Aside0.mk (Below.refl w.heap.size w)
 have H:((spec_l02Node.f a0_0).bind fun t373=>(if t373=true then (if (l0_1.length:Int)<1 then (spec_RingRight.j0 k true a0_0 l0_1) else (if (l0_1.length:Int)>(wrap64 (8*a0_0)) then (spec_RingRight.j0 k true a0_0 l0_1) else (if a0_0=0 then (none) else (spec_RingRight.j0 k (((l0_1.length:Int) % a0_0) != 0) a0_0 l0_1)))) else (spec_RingRight.j0 k true a0_0 l0_1)))=some r:=h
 clear h
 have HC2:=Aside0.mk H
 clear H
 go_enter Tryd.func51,Tryd.ntmps51
 go_upto_region 1 with (first | ((with_reducible refine gd_ 1 ?_);(try (refine gate_guard (by rfl) ?_;dsimp only));refine be_ 1 #[.int .i64 a0_0,.slice A0_1 l0_1.length c0_1] 24 ?_;intro gb372 hg w3 hbox hb;refine as4_ (below_step (z4_ HB.out) hb) (hbox) ((z8_ HB.out:w.heap.size≤gb372)) ((z8_ HB.out:w.heap.size≤gb372)) ?_;clear HB;intro HB BK372 GW372 GE372;clear hb hbox hg))
 (try simp only [Act.put,sa_,s0_,ss_])
 go_cut [32] (fun v32 wc=>∃ (kq:Nat) (x32_1:Bool),v32 = .bool x32_1∧Aside0 (spec_RingRight.j0 kq x32_1 a0_0 l0_1=some r)∧Aside0 (kq≤k)∧Aside0 (wc.heap[gb372]? = some (.cells #[.int .i64 a0_0,(.slice A0_1 l0_1.length c0_1)] 24 (0,0)))∧Aside0 (Below w.heap.size w wc))
 case first =>
  have H:=HC2.out
  clear HC2
  replace H:=Option.bind_eq_some_iff.mp H
  obtain ⟨t373,A40,H⟩:=H
  replace H:(if t373=true then (if (l0_1.length:Int)<1 then (spec_RingRight.j0 k true a0_0 l0_1) else (if (l0_1.length:Int)>(wrap64 (8*a0_0)) then (spec_RingRight.j0 k true a0_0 l0_1) else (if a0_0=0 then (none) else (spec_RingRight.j0 k (((l0_1.length:Int) % a0_0) != 0) a0_0 l0_1)))) else (spec_RingRight.j0 k true a0_0 l0_1))=some r:=H
  have A4:=Aside0.mk A40
  clear A40
  by_cases c5:t373=true
  ·subst c5
   have H1:(if (l0_1.length:Int)<1 then (spec_RingRight.j0 k true a0_0 l0_1) else (if (l0_1.length:Int)>(wrap64 (8*a0_0)) then (spec_RingRight.j0 k true a0_0 l0_1) else (if a0_0=0 then (none) else (spec_RingRight.j0 k (((l0_1.length:Int) % a0_0) != 0) a0_0 l0_1))))=some r:=by rw [if_pos rfl] at H;exact H
   clear H
   have H:=H1
   clear H1
   by_cases c6:(l0_1.length:Int)<1
   ·rw [if_pos c6] at H
    have c6b0:decide ((l0_1.length:Int)<1)=true:=decide_eq_true c6
    have c6b1:decide (l0_1.length<1)=true:=decide_eq_true (by omega)
    clear c6
    (first | rw [c6b0] | (simp only [i64_w,i32_w];rw [c6b0]) | skip)
    have H':=Aside0.mk H
    clear H
    have ⟨hcz7_0,hcz7_1,hfz7_0,hfz7_1⟩:=cz2_ BK372.out
    go_wp2_with (first | ((with_reducible refine gc_ 38 ?_);refine gl_ (some 7) Tryd.func38 #[.int .i64 a0_0] ?_;(with_reducible refine (spec_l02Node.calls a0_0 true _ A4.out).mono ?_);rintro e w' ⟨rfl,⟨nd,rfl⟩⟩;refine ⟨_,rfl,?_⟩))
    go_meet
    case rel=>exact ⟨_,(true),(z2_),H',⟨by first | omega | exact Nat.le_refl _⟩,⟨z3_ BK372.out⟩,⟨z7_ HB.out GE372.out⟩⟩
   ·rw [if_neg c6] at H
    have c6b0:decide ((l0_1.length:Int)<1)=false:=decide_eq_false c6
    have c6b1:decide (l0_1.length<1)=false:=decide_eq_false (by omega)
    clear c6
    (first | rw [c6b0] | (simp only [i64_w,i32_w];rw [c6b0]) | skip)
    by_cases c8:(l0_1.length:Int)>(wrap64 (8*a0_0))
    ·rw [if_pos c8] at H
     have c8b0:decide ((wrap64 (8*a0_0))<(l0_1.length:Int))=true:=decide_eq_true c8
     clear c8
     have H':=Aside0.mk H
     clear H
     have ⟨hcz9_0,hcz9_1,hfz9_0,hfz9_1⟩:=cz2_ BK372.out
     go_wp2_with (first | ((with_reducible refine gc_ 38 ?_);refine gl_ (some 7) Tryd.func38 #[.int .i64 a0_0] ?_;(with_reducible refine (spec_l02Node.calls a0_0 true _ A4.out).mono ?_);rintro e w' ⟨rfl,⟨nd,rfl⟩⟩;refine ⟨_,rfl,?_⟩))
     go_meet
     case rel=>exact ⟨_,(true),(z2_),H',⟨by first | omega | exact Nat.le_refl _⟩,⟨z3_ BK372.out⟩,⟨z7_ HB.out GE372.out⟩⟩
    ·rw [if_neg c8] at H
     have c8b0:decide ((wrap64 (8*a0_0))<(l0_1.length:Int))=false:=decide_eq_false c8
     clear c8
     by_cases c10:a0_0=0
     ·rw [if_pos c10] at H
      exact absurd H (by simp)
     ·rw [if_neg c10] at H
      have c10b0:(a0_0 == 0)=false:=beq_eq_false_iff_ne.mpr c10
      have c10b1:(a0_0 != 0)=true:=bne_iff_ne.mpr c10
      have H':=Aside0.mk H
      clear H
      have ⟨hcz11_0,hcz11_1,hfz11_0,hfz11_1⟩:=cz2_ BK372.out
      go_wp2_with (first | ((with_reducible refine gc_ 38 ?_);refine gl_ (some 7) Tryd.func38 #[.int .i64 a0_0] ?_;(with_reducible refine (spec_l02Node.calls a0_0 true _ A4.out).mono ?_);rintro e w' ⟨rfl,⟨nd,rfl⟩⟩;refine ⟨_,rfl,?_⟩))
      go_meet
      case rel=>exact ⟨_,((((l0_1.length:Int) % a0_0) != 0)),(z2_),H',⟨by first | omega | exact Nat.le_refl _⟩,⟨z3_ BK372.out⟩,⟨z7_ HB.out GE372.out⟩⟩
  ·replace c5:=Bool.eq_false_iff.mpr c5
   subst c5
   have H1:(spec_RingRight.j0 k true a0_0 l0_1)=some r:=by rw [if_neg (show ¬ (false=true) by decide)] at H;exact H
   clear H
   have H:=H1
   clear H1
   have H':=Aside0.mk H
   clear H
   have ⟨hcz12_0,hcz12_1,hfz12_0,hfz12_1⟩:=cz2_ BK372.out
   go_wp2_with (first | ((with_reducible refine gc_ 38 ?_);refine gl_ (some 7) Tryd.func38 #[.int .i64 a0_0] ?_;(with_reducible refine (spec_l02Node.calls a0_0 false _ A4.out).mono ?_);rintro e w' ⟨rfl,⟨nd,rfl⟩⟩;refine ⟨_,rfl,?_⟩))
   go_meet
   case rel=>exact ⟨_,(true),(z2_),H',⟨by first | omega | exact Nat.le_refl _⟩,⟨z3_ BK372.out⟩,⟨z7_ HB.out GE372.out⟩⟩
 case rest =>
  clear HC2
  try clear c1
  try clear p2
  try clear c3
  try clear c5
  try clear c6
  try clear c6b0
  try clear c6b1
  try clear p6
  try clear c8
  try clear c8b0
  try clear c10
  try clear c10b0
  try clear c10b1
  try clear hcz11_0
  try clear hcz11_1
  try clear hcz12_0
  try clear hcz12_1
  try clear hcz7_0
  try clear hcz7_1
  try clear hcz9_0
  try clear hcz9_1
  try clear hfz11_0
  try clear hfz11_1
  try clear hfz12_0
  try clear hfz12_1
  try clear hfz7_0
  try clear hfz7_1
  try clear hfz9_0
  try clear hfz9_1
  obtain ⟨kq,x32_1,rfl,HA,HJ1,BK372,HB⟩:=hcut
  cases kq with
  | zero=>exact absurd HA.out (by simp [spec_RingRight.j0])
  | succ kj1 =>
   have H:=HA.out
   clear HA
   simp only [spec_RingRight.j0] at H
   by_cases c13:x32_1=true
   ·subst c13
    have H1:(some false)=some r:=by rw [if_pos rfl] at H;exact H
    clear H
    have H:=H1
    clear H1
    obtain rfl:=Option.some.inj H
    go_wp2
    go_ret
    exact ⟨z10_,z7_ HB.out GE372.out⟩
   ·replace c13:=Bool.eq_false_iff.mpr c13
    subst c13
    have H1:(if a0_0=0 then (none) else ((spec_l04New.f kj1 a0_0 (wrap64 ((l0_1.length:Int) / a0_0))).bind fun bt374=>(spec_RingRight.l0 kj1 0 a0_0 l0_1 bt374.1 bt374.2)))=some r:=by rw [if_neg (show ¬ (false=true) by decide)] at H;exact H
    clear H
    have H:=H1
    clear H1
    by_cases c14:a0_0=0
    ·rw [if_pos c14] at H
     exact absurd H (by simp)
    ·rw [if_neg c14] at H
     have c14b0:(a0_0 == 0)=false:=beq_eq_false_iff_ne.mpr c14
     have c14b1:(a0_0 != 0)=true:=bne_iff_ne.mpr c14
     replace H:=Option.bind_eq_some_iff.mp H
     obtain ⟨⟨t374,t375⟩,A150,H⟩:=H
     replace H:(spec_RingRight.l0 kj1 0 a0_0 l0_1 t374 t375)=some r:=H
     have A15:=Aside0.mk A150
     clear A150
     have H':=Aside0.mk H
     clear H
     try go_wp2
     refine as2_ (blk_drew BK372.out) (below_drew1 HB.out) ?_
     clear BK372 HB
     intro BK372 HB
     refine start_ (n:=11) (S:=fun w'=>w'.cell? ⟨gb372,0,none⟩=some (.int .i64 a0_0)∧w'.cell? ⟨gb372,1,none⟩=some (.slice A0_1 l0_1.length c0_1)) (ds:=[]) #[O,O,O,O,O,O,O,O,O,O,O] (by kernel_rfl) rfl rfl (cc2_ BK372.out) (fun hHeld=>?_);refine with_tabW spec_RingRight.tab3 spec_RingRight.bits3 (fun HT_ HW_=>?_)
     generalize wc.drew=w16 at BK372 HB hHeld ⊢
     refine pu_ 0 33 #[I,O,O,O,O,O,O,O,O,O,O] HT_.out ?_
     refine pu_ 2 35 #[I,O,I,O,O,O,O,O,O,O,O] HT_.out ?_
     refine pu_ 5 38 #[I,O,I,O,O,I,O,O,O,O,O] HT_.out ?_
     refine tk2_ 1 34 #[I,I,I,O,O,I,O,O,O,O,O] HT_.out HW_.out hHeld ?_
     refine tk2_ 3 36 #[I,I,I,I,O,I,O,O,O,O,O] HT_.out HW_.out hHeld ?_
     refine pu_ 4 37 #[I,I,I,I,I,I,O,O,O,O,O] HT_.out ?_
     refine tk2_ 6 39 #[I,I,I,I,I,I,I,O,O,O,O] HT_.out HW_.out hHeld ?_
     refine pu_ 7 40 #[I,I,I,I,I,I,I,I,O,O,O] HT_.out ?_
     refine join_ (σ:=Value × Nat) 1 #[I,I,I,I,I,I,I,I,I,I,O] (fun s_=>[(41,.agg #[.int .i64 t374,s_.1]),(3,.pointer (some ⟨s_.2,0,none⟩))]) (fun s_ w'=>(w'.cell? ⟨gb372,0,none⟩=some (.int .i64 a0_0)∧w'.cell? ⟨gb372,1,none⟩=some (.slice A0_1 l0_1.length c0_1))∧(Kd.R k77 77 w' w.heap.size (fun _=>True) s_.1 t375)∧(w'.heap[gb372]? = some (.cells #[.int .i64 a0_0,.slice A0_1 l0_1.length c0_1] 24 (0,0)))∧(w'.heap[s_.2]? = some (.cells #[.int .i64 0,.slice none 0 0] 24 (0,0)))∧(w.heap.size≤s_.2)∧(w.heap.size≤s_.2)∧(gb372≠s_.2)∧(s_.2≠gb372)∧(Below w.heap.size w w')) ?_ ?_
     rotate_left
     ·intro hCont
      refine o2_ 8 9 41 3 #[I,I,I,I,I,I,I,I,I,O,O] #[I,I,I,I,I,I,I,I,O,I,O] HT_.out (fun K hK=>?_) (fun K hK=>?_)
      ·skip
       refine gs_ Tryd.func40 #[.int .i64 a0_0,.int .i64 (wrap64 ((l0_1.length:Int) / a0_0))] ?_
       with_reducible refine (spec_l04New.calls kj1 a0_0 (wrap64 ((l0_1.length:Int) / a0_0)) t374 t375 _ A15.out).mono ?_
       rintro e w17 ⟨v376,rfl,ho0,hb⟩
       refine ⟨_,rfl,?_⟩
       refine as3_ (Kd.R_lower ho0 (below_size (z7_ HB.out GE372.out))) (blkB_ BK372.out hb) (below_step (z7_ HB.out GE372.out) hb) ?_
       clear BK372 HB
       intro HO377 BK372 HB
       (try clear hb)
       (try clear ho0)
       refine hK.out _ _ (cc2_ BK372.out) (fun hHeld=>?_)
       clear hK K
       refine nm_ 41 ?_
       refine o1_ 9 3 #[I,I,I,I,I,I,I,I,I,I,O] HT_.out (fun K hK=>?_)
       refine bs_ 3 #[.int .i64 0,.slice none 0 0] 24 ?_
       intro gb378 hg w18 hbox hb
       refine as8_ (Kd.R_below (z1_ HO377.out) hb) (blkB_ BK372.out hb) (below_step (z7_ HB.out GE372.out) hb) (hbox) ((z11_ HB.out GE372.out:w.heap.size≤gb378)) ((z11_ HB.out GE372.out:w.heap.size≤gb378)) (neL_ BK372.out hg) (neG_ BK372.out hg) ?_
       clear HO377 BK372 HB
       intro HO377 BK372 HB BK378 GW378 GE378 NB372_378 NB378_372
       clear hb hbox hg
       refine hK.out _ _ (cc2_ BK372.out) (fun hHeld=>?_)
       clear hK K
       refine nm_ 3 ?_
       exact norm_ (by simp only [putAll,Act.put,List.setIfInBounds_toArray,List.set_cons_zero,List.set_cons_succ]) (hCont (v376,gb378) _ ⟨hHeld,(z1_ HO377.out),(z3_ BK372.out),(z3_ BK378.out),GW378.out,GE378.out,NB372_378.out,NB378_372.out,(z5_ HB.out GE372.out GE378.out)⟩)
      ·skip
       refine bs_ 3 #[.int .i64 0,.slice none 0 0] 24 ?_
       intro gb378 hg w17 hbox hb
       refine as7_ (blkB_ BK372.out hb) (below_step (z7_ HB.out GE372.out) hb) (hbox) ((z11_ HB.out GE372.out:w.heap.size≤gb378)) ((z11_ HB.out GE372.out:w.heap.size≤gb378)) (neL_ BK372.out hg) (neG_ BK372.out hg) ?_
       clear BK372 HB
       intro BK372 HB BK378 GW378 GE378 NB372_378 NB378_372
       clear hb hbox hg
       refine hK.out _ _ (cc2_ BK372.out) (fun hHeld=>?_)
       clear hK K
       refine nm_ 3 ?_
       refine o1_ 8 41 #[I,I,I,I,I,I,I,I,I,I,O] HT_.out (fun K hK=>?_)
       refine gs_ Tryd.func40 #[.int .i64 a0_0,.int .i64 (wrap64 ((l0_1.length:Int) / a0_0))] ?_
       with_reducible refine (spec_l04New.calls kj1 a0_0 (wrap64 ((l0_1.length:Int) / a0_0)) t374 t375 _ A15.out).mono ?_
       rintro e w18 ⟨v376,rfl,ho0,hb⟩
       refine ⟨_,rfl,?_⟩
       refine as4_ (Kd.R_lower ho0 (below_size (z5_ HB.out GE372.out GE378.out))) (blkB_ BK372.out hb) (blkB_ BK378.out hb) (below_step (z5_ HB.out GE372.out GE378.out) hb) ?_
       clear BK372 BK378 HB
       intro HO377 BK372 BK378 HB
       (try clear hb)
       (try clear ho0)
       refine hK.out _ _ (cc2_ BK372.out) (fun hHeld=>?_)
       clear hK K
       refine nm_ 41 ?_
       exact norm_ (by simp only [putAll,Act.put,List.setIfInBounds_toArray,List.set_cons_zero,List.set_cons_succ]) (hCont (v376,gb378) _ ⟨hHeld,(z1_ HO377.out),(z3_ BK372.out),(z3_ BK378.out),GW378.out,GE378.out,NB372_378.out,NB378_372.out,(z5_ HB.out GE372.out GE378.out)⟩)
     rintro ⟨v376,gb378⟩ w19 ⟨hS_,h0_,h1_,h2_,h3_,h4_,h5_,h6_,h7_⟩
     have n0_:Aside0 (Kd.R k77 77 w19 w.heap.size (fun _=>True) v376 t375):=⟨h0_⟩
     have n1_:Aside0 (w19.heap[gb372]? = some (.cells #[.int .i64 a0_0,.slice A0_1 l0_1.length c0_1] 24 (0,0))):=⟨h1_⟩
     have n2_:Aside0 (w19.heap[gb378]? = some (.cells #[.int .i64 0,.slice none 0 0] 24 (0,0))):=⟨h2_⟩
     have n3_:Aside0 (w.heap.size≤gb378):=⟨h3_⟩
     have n4_:Aside0 (w.heap.size≤gb378):=⟨h4_⟩
     have n5_:Aside0 (gb372≠gb378):=⟨h5_⟩
     have n6_:Aside0 (gb378≠gb372):=⟨h6_⟩
     have n7_:Aside0 (Below w.heap.size w w19):=⟨h7_⟩
     clear BK372
     clear HB
     clear h0_ h1_ h2_ h3_ h4_ h5_ h6_ h7_
     have HO377:=n0_
     have BK372:=n1_
     have BK378:=n2_
     have GW378:=n3_
     have GE378:=n4_
     have NB372_378:=n5_
     have NB378_372:=n6_
     have HB:=n7_
     clear n0_ n1_ n2_ n3_ n4_ n5_ n6_ n7_
     have hHeld:w19.cell? ⟨gb372,0,none⟩=some (.int .i64 a0_0)∧w19.cell? ⟨gb372,1,none⟩=some (.slice A0_1 l0_1.length c0_1):=hS_
     obtain ⟨Ao21,co21,eo21⟩:=Kd.R_slice HO377.out
     (first | subst eo21 | (injection eo21 with f1_ f2_ f3_;have f4_:=f1_.symm;have f5_:=f3_.symm;clear f1_ f2_ f3_;subst f4_;subst f5_))
     refine norm_ (a':=?_) ?_ ?_
     rotate_left
     ·simp only [putAll,Act.put,List.setIfInBounds_toArray,List.set_cons_zero,List.set_cons_succ]
      rfl
     refine one_ (i:=10) (N:=none) #[I,I,I,I,I,I,I,I,I,I,I] rfl rfl (one_of HT_.out (by kernel_rfl)) (by decide) (fun K hK=>?_)
     have hs20:w19.cell? ⟨gb378,0,none⟩=some (.int .i64 0):=(blk_cell BK378.out 0).trans rfl
     have hfs20:=blk_frozen BK378.out 0
     have hns20_0:=NB372_378.out
     have hms20_0:=NB378_372.out
     have hs22:w19.cell? ⟨gb378,1,none⟩=some (.slice none 0 0):=(blk_cell BK378.out 1).trans rfl
     have hfs22:=blk_frozen BK378.out 1
     have hns22_0:=NB372_378.out
     have hms22_0:=NB378_372.out
     refine skip_ (w1:=?_) (by rfl) rfl ?_ ?_
     rotate_left
     ·go_simp
      rfl
     refine hK.out _ _ ⟨((cell_far (p:=⟨gb378,_,none⟩) NB372_378.out _).trans (((cell_far (p:=⟨gb378,_,none⟩) NB372_378.out _).trans (hHeld.1)))),((cell_far (p:=⟨gb378,_,none⟩) NB372_378.out _).trans (((cell_far (p:=⟨gb378,_,none⟩) NB372_378.out _).trans (hHeld.2))))⟩ (fun hHeld=>?_)
     clear hK K
     refine done_ (done_of HT_.out (by kernel_rfl)) ?_
     try go_wp2
     go_loopg [4] kj1 (fun kq v4 w'=>∃ (x4_2:Int),v4 = .int .i64 x4_2∧Aside0 (spec_RingRight.l0 kq x4_2 a0_0 l0_1 t374 t375=some r)∧Aside0 (kq≤kj1)∧Aside0 (Kd.R k77 77 w' w.heap.size (fun _=>True) (.slice Ao21 t375.length co21) t375)∧Aside0 (w'.heap[gb372]? = some (.cells #[.int .i64 a0_0,(.slice A0_1 l0_1.length c0_1)] 24 (0,0)))∧Aside0 (w'.heap[gb378]? = some (.cells #[.int .i64 t374,(.slice Ao21 t375.length co21)] 24 (0,0)))∧Aside0 (Below w.heap.size w w'))
     case atStart=>exact ⟨(0),(z2_),H',⟨Nat.le_refl _⟩,⟨z40_ HO377.out BK378.out⟩,⟨z20_ NB372_378.out BK372.out⟩,⟨z27_ BK378.out⟩,⟨z5_ HB.out GE372.out GE378.out⟩⟩
     case round =>
      clear H'
      try clear c1
      try clear p2
      try clear c3
      try clear c4
      try clear c5
      try clear c6
      try clear c6b0
      try clear c6b1
      try clear p6
      try clear c8
      try clear c8b0
      try clear c10
      try clear c10b0
      try clear c10b1
      try clear c13
      try clear c14
      try clear c14b0
      try clear c14b1
      try clear hcz11_0
      try clear hcz11_1
      try clear hcz12_0
      try clear hcz12_1
      try clear hcz7_0
      try clear hcz7_1
      try clear hcz9_0
      try clear hcz9_1
      try clear hfz11_0
      try clear hfz11_1
      try clear hfz12_0
      try clear hfz12_1
      try clear hfz7_0
      try clear hfz7_1
      try clear hfz9_0
      try clear hfz9_1
      try clear p2
      try clear p6
      obtain ⟨x4_2,rfl,HA,HK2,HO_379001,BK372,BK378,HB⟩:=hrel
      cases gk with
      | zero=>exact absurd HA.out (by simp [spec_RingRight.l0])
      | succ k2 =>
       have H:=HA.out
       clear HA
       simp only [spec_RingRight.l0] at H
       by_cases c23:x4_2<(l0_1.length:Int)
       ·rw [if_pos c23] at H
        have c23b0:decide (x4_2<(l0_1.length:Int))=true:=decide_eq_true c23
        clear c23
        by_cases c24:0≤x4_2
        ·rw [if_pos c24] at H
         have c24b0:decide (0≤x4_2)=true:=decide_eq_true c24
         clear c24
         by_cases c25:x4_2<(t375.length:Int)
         ·rw [if_pos c25] at H
          have c25b0:decide (x4_2<(t375.length:Int))=true:=decide_eq_true c25
          clear c25
          by_cases c26:(!(((rd_T77 l0_1 x4_2).f0) == ((rd_T77 t375 x4_2).f0)) || (!(((rd_T77 l0_1 x4_2).f1) == ((rd_T77 t375 x4_2).f1))))=true
          ·rw [if_pos c26] at H
           have c26b0:(!(((rd_T77 l0_1 x4_2).f0) == ((rd_T77 t375 x4_2).f0)) || (!(((rd_T77 l0_1 x4_2).f1) == ((rd_T77 t375 x4_2).f1))))=true:=c26
           clear c26
           obtain rfl:=Option.some.inj H
           have hnb27:=NB372_378.out
           have hnc27:=NB378_372.out
           have ⟨hcz28_0,hcz28_1,hfz28_0,hfz28_1⟩:=cz2_ BK372.out
           try go_wp2
           refine as4_ (Kd.R_drew HO_379001.out) (blk_drew BK372.out) (blk_drew BK378.out) (below_drew1 HB.out) ?_
           clear HO_379001 BK372 BK378 HB
           intro HO_379001 BK372 BK378 HB
           have p379:0≤(x4_2:Int):=of_decide_eq_true (z0_)
           have q379:x4_2<(l0_1.length:Int):=of_decide_eq_true (z0_)
           obtain ⟨ad379,e379,hx379_0,hx379_1⟩:=at_T77 HR0_1.out x4_2 p379 q379
           have hw379_1:=hx379_1
           have hw379_0:=hx379_0
           cases e379
           replace hx379_0:=(HB.out.cell (World.block_lt_of_cell? w _ hx379_0)).trans hx379_0
           replace hx379_1:=(HB.out.cell (World.block_lt_of_cell? w _ hx379_1)).trans hx379_1
           replace p379:=eq_true p379
           replace q379:=eq_true q379
           have p380:0≤(x4_2:Int):=of_decide_eq_true (z0_)
           have q380:x4_2<(t375.length:Int):=of_decide_eq_true (z0_)
           obtain ⟨ad380,e380,hx380_0,hx380_1⟩:=at_T77 (Kd.R_reads' HO_379001.out).2.2 x4_2 p380 q380
           cases e380
           replace p380:=eq_true p380
           replace q380:=eq_true q380
           refine start_ (n:=11) (S:=fun w'=>w'.cell? ⟨gb372,0,none⟩=some (.int .i64 a0_0)∧w'.cell? ⟨gb372,1,none⟩=some (.slice (some ad379) l0_1.length c0_1)∧w'.cell? ⟨gb378,0,none⟩=some (.int .i64 t374)∧w'.cell? ⟨gb378,1,none⟩=some (.slice (some ad380) t375.length co21)∧w'.cell? (ad379.add ((x4_2).toNat*2))=some (.int .i64 ((rd_T77 l0_1 x4_2).f0))∧w'.cell? ⟨(ad379.add ((x4_2).toNat*2)).block,(ad379.add ((x4_2).toNat*2)).off+1,none⟩=some (.int .i64 ((rd_T77 l0_1 x4_2).f1))∧w'.cell? (ad380.add ((x4_2).toNat*2))=some (.int .i64 ((rd_T77 t375 x4_2).f0))∧w'.cell? ⟨(ad380.add ((x4_2).toNat*2)).block,(ad380.add ((x4_2).toNat*2)).off+1,none⟩=some (.int .i64 ((rd_T77 t375 x4_2).f1))) (ds:=[]) #[O,O,O,O,O,O,O,O,O,O,O] (by kernel_rfl) rfl rfl (cj2_ BK372.out (cj2_ BK378.out ⟨((HB.out.cell (World.block_lt_of_cell? w _ hw379_0)).trans hw379_0),⟨((HB.out.cell (World.block_lt_of_cell? w _ hw379_1)).trans hw379_1),⟨hx380_0,hx380_1⟩⟩⟩)) (fun hHeld=>?_);refine with_tabW spec_RingRight.tab7 spec_RingRight.bits7 (fun HT_ HW_=>?_)
           generalize wr.drew=w29 at HO_379001 BK372 BK378 HB hx379_0 hx379_1 hx380_0 hx380_1 hHeld ⊢
           refine pu_ 0 49 #[I,O,O,O,O,O,O,O,O,O,O] HT_.out ?_
           refine pu_ 2 51 #[I,O,I,O,O,O,O,O,O,O,O] HT_.out ?_
           refine pu_ 5 54 #[I,O,I,O,O,I,O,O,O,O,O] HT_.out ?_
           refine pu_ 7 56 #[I,O,I,O,O,I,O,I,O,O,O] HT_.out ?_
           refine tk8_ 1 50 #[I,I,I,O,O,I,O,I,O,O,O] HT_.out HW_.out hHeld ?_
           refine pu_ 3 52 #[I,I,I,I,O,I,O,I,O,O,O] HT_.out ?_
           refine tk8_ 4 53 #[I,I,I,I,I,I,O,I,O,O,O] HT_.out HW_.out hHeld ?_
           refine tk8_ 6 55 #[I,I,I,I,I,I,I,I,O,O,O] HT_.out HW_.out hHeld ?_
           refine pu_ 8 57 #[I,I,I,I,I,I,I,I,I,O,O] HT_.out ?_
           refine tk8_ 9 58 #[I,I,I,I,I,I,I,I,I,I,O] HT_.out HW_.out hHeld ?_
           refine pu_ 10 59 #[I,I,I,I,I,I,I,I,I,I,I] HT_.out ?_
           refine done_ (done_of HT_.out (by kernel_rfl)) ?_
           try go_wp2
           go_ret
           exact ⟨z10_,z5_ HB.out GE372.out GE378.out⟩
          ·rw [if_neg c26] at H
           have c26b0:(!(((rd_T77 l0_1 x4_2).f0) == ((rd_T77 t375 x4_2).f0)) || (!(((rd_T77 l0_1 x4_2).f1) == ((rd_T77 t375 x4_2).f1))))=false:=by simpa using c26
           clear c26
           have H':=Aside0.mk H
           clear H
           have hnb30:=NB372_378.out
           have hnc30:=NB378_372.out
           have ⟨hcz31_0,hcz31_1,hfz31_0,hfz31_1⟩:=cz2_ BK372.out
           try go_wp2
           refine as4_ (Kd.R_drew HO_379001.out) (blk_drew BK372.out) (blk_drew BK378.out) (below_drew1 HB.out) ?_
           clear HO_379001 BK372 BK378 HB
           intro HO_379001 BK372 BK378 HB
           have p379:0≤(x4_2:Int):=of_decide_eq_true (z0_)
           have q379:x4_2<(l0_1.length:Int):=of_decide_eq_true (z0_)
           obtain ⟨ad379,e379,hx379_0,hx379_1⟩:=at_T77 HR0_1.out x4_2 p379 q379
           have hw379_1:=hx379_1
           have hw379_0:=hx379_0
           cases e379
           replace hx379_0:=(HB.out.cell (World.block_lt_of_cell? w _ hx379_0)).trans hx379_0
           replace hx379_1:=(HB.out.cell (World.block_lt_of_cell? w _ hx379_1)).trans hx379_1
           replace p379:=eq_true p379
           replace q379:=eq_true q379
           have p380:0≤(x4_2:Int):=of_decide_eq_true (z0_)
           have q380:x4_2<(t375.length:Int):=of_decide_eq_true (z0_)
           obtain ⟨ad380,e380,hx380_0,hx380_1⟩:=at_T77 (Kd.R_reads' HO_379001.out).2.2 x4_2 p380 q380
           cases e380
           replace p380:=eq_true p380
           replace q380:=eq_true q380
           refine start_ (n:=11) (S:=fun w'=>w'.cell? ⟨gb372,0,none⟩=some (.int .i64 a0_0)∧w'.cell? ⟨gb372,1,none⟩=some (.slice (some ad379) l0_1.length c0_1)∧w'.cell? ⟨gb378,0,none⟩=some (.int .i64 t374)∧w'.cell? ⟨gb378,1,none⟩=some (.slice (some ad380) t375.length co21)∧w'.cell? (ad379.add ((x4_2).toNat*2))=some (.int .i64 ((rd_T77 l0_1 x4_2).f0))∧w'.cell? ⟨(ad379.add ((x4_2).toNat*2)).block,(ad379.add ((x4_2).toNat*2)).off+1,none⟩=some (.int .i64 ((rd_T77 l0_1 x4_2).f1))∧w'.cell? (ad380.add ((x4_2).toNat*2))=some (.int .i64 ((rd_T77 t375 x4_2).f0))∧w'.cell? ⟨(ad380.add ((x4_2).toNat*2)).block,(ad380.add ((x4_2).toNat*2)).off+1,none⟩=some (.int .i64 ((rd_T77 t375 x4_2).f1))) (ds:=[]) #[O,O,O,O,O,O,O,O,O,O,O] (by kernel_rfl) rfl rfl (cj2_ BK372.out (cj2_ BK378.out ⟨((HB.out.cell (World.block_lt_of_cell? w _ hw379_0)).trans hw379_0),⟨((HB.out.cell (World.block_lt_of_cell? w _ hw379_1)).trans hw379_1),⟨hx380_0,hx380_1⟩⟩⟩)) (fun hHeld=>?_);refine with_tabW spec_RingRight.tab7 spec_RingRight.bits7 (fun HT_ HW_=>?_)
           generalize wr.drew=w32 at HO_379001 BK372 BK378 HB hx379_0 hx379_1 hx380_0 hx380_1 hHeld ⊢
           refine pu_ 0 49 #[I,O,O,O,O,O,O,O,O,O,O] HT_.out ?_
           refine pu_ 2 51 #[I,O,I,O,O,O,O,O,O,O,O] HT_.out ?_
           refine pu_ 5 54 #[I,O,I,O,O,I,O,O,O,O,O] HT_.out ?_
           refine pu_ 7 56 #[I,O,I,O,O,I,O,I,O,O,O] HT_.out ?_
           refine tk8_ 1 50 #[I,I,I,O,O,I,O,I,O,O,O] HT_.out HW_.out hHeld ?_
           refine pu_ 3 52 #[I,I,I,I,O,I,O,I,O,O,O] HT_.out ?_
           refine tk8_ 4 53 #[I,I,I,I,I,I,O,I,O,O,O] HT_.out HW_.out hHeld ?_
           refine tk8_ 6 55 #[I,I,I,I,I,I,I,I,O,O,O] HT_.out HW_.out hHeld ?_
           refine pu_ 8 57 #[I,I,I,I,I,I,I,I,I,O,O] HT_.out ?_
           refine tk8_ 9 58 #[I,I,I,I,I,I,I,I,I,I,O] HT_.out HW_.out hHeld ?_
           refine pu_ 10 59 #[I,I,I,I,I,I,I,I,I,I,I] HT_.out ?_
           refine done_ (done_of HT_.out (by kernel_rfl)) ?_
           try go_wp2
           go_roundg k2
           case measure=>have:=HJ1.out;have:=HK2.out;omega
           case rel=>exact ⟨(wrap64 (x4_2+1)),(z2_),H',⟨z13_ HJ1.out HK2.out⟩,⟨z1_ HO_379001.out⟩,⟨z3_ BK372.out⟩,⟨z3_ BK378.out⟩,⟨z5_ HB.out GE372.out GE378.out⟩⟩
         ·rw [if_neg c25] at H
          exact absurd H (by simp)
        ·rw [if_neg c24] at H
         exact absurd H (by simp)
       ·rw [if_neg c23] at H
        have c23b0:decide (x4_2<(l0_1.length:Int))=false:=decide_eq_false c23
        clear c23
        obtain rfl:=Option.some.inj H
        have hnb33:=NB372_378.out
        have hnc33:=NB378_372.out
        have ⟨hcz34_0,hcz34_1,hfz34_0,hfz34_1⟩:=cz2_ BK372.out
        go_wp2
        go_ret
        exact ⟨z10_,z5_ HB.out GE372.out GE378.out⟩


/-! ### spec_NameRight: function 21 -/
mutual
def spec_NameRight.j0:Nat→ByteArray→Bool→Option (Bool)
 | 0,_,_=>none
 | k+1,x0,x12=>if x12=true then (some false) else (spec_NameRight.l0 k x0 0)
def spec_NameRight.l0:Nat→ByteArray→Int→Option (Bool)
 | 0,_,_=>none
 | k+1,x0,x3=>if x3<(x0.size:Int) then (if 0≤x3 then (if (bt x0 x3)≥97 then (if ((bt x0 x3)≤122) then (spec_NameRight.l0 k x0 (wrap64 (x3+1))) else (if x3=0 then (some false) else (if (bt x0 x3)≥48 then (if ((bt x0 x3)≤57) then (spec_NameRight.l0 k x0 (wrap64 (x3+1))) else (if (bt x0 x3)=95 then (spec_NameRight.l0 k x0 (wrap64 (x3+1))) else (some false))) else (if (bt x0 x3)=95 then (spec_NameRight.l0 k x0 (wrap64 (x3+1))) else (some false))))) else (if x3=0 then (some false) else (if (bt x0 x3)≥48 then (if ((bt x0 x3)≤57) then (spec_NameRight.l0 k x0 (wrap64 (x3+1))) else (if (bt x0 x3)=95 then (spec_NameRight.l0 k x0 (wrap64 (x3+1))) else (some false))) else (if (bt x0 x3)=95 then (spec_NameRight.l0 k x0 (wrap64 (x3+1))) else (some false))))) else (none)) else (some true)
end
def spec_NameRight.f (k:Nat) (a0:ByteArray):Option (Bool):=if (a0.size:Int)<1 then (spec_NameRight.j0 k a0 true) else (spec_NameRight.j0 k a0 (decide ((a0.size:Int)>20)))
theorem spec_NameRight.mono_l:∀ k,(∀ y0 y1,LeO (spec_NameRight.j0 k y0 y1) (spec_NameRight.j0 (k+1) y0 y1))∧(∀ y0 y1,LeO (spec_NameRight.l0 k y0 y1) (spec_NameRight.l0 (k+1) y0 y1))
 | 0=>⟨fun _ _ r h=>by simp [spec_NameRight.j0] at h,fun _ _ r h=>by simp [spec_NameRight.l0] at h⟩
 | k+1=>by
  obtain ⟨ih0,ih1⟩:=spec_NameRight.mono_l k
  refine ⟨?_,?_⟩
  ·intro y0 y1
   unfold spec_NameRight.j0
   repeat' first
   | (with_reducible exact ih0 _ _)
   | (with_reducible exact ih1 _ _)
   | (with_reducible exact LeO.refl _)
   | (with_reducible exact LeO.none _)
   | (with_reducible refine LeO.ite ?_ ?_)
   | (with_reducible refine LeO.bind ?_ (fun _=>?_))
   | exact ih0 _ _
   | exact ih1 _ _
   | exact LeO.none _
   | refine LeO.ite ?_ ?_
   | refine LeO.bind ?_ (fun _=>?_)
  ·intro y0 y1
   unfold spec_NameRight.l0
   repeat' first
   | (with_reducible exact ih0 _ _)
   | (with_reducible exact ih1 _ _)
   | (with_reducible exact LeO.refl _)
   | (with_reducible exact LeO.none _)
   | (with_reducible refine LeO.ite ?_ ?_)
   | (with_reducible refine LeO.bind ?_ (fun _=>?_))
   | exact ih0 _ _
   | exact ih1 _ _
   | exact LeO.none _
   | refine LeO.ite ?_ ?_
   | refine LeO.bind ?_ (fun _=>?_)
theorem spec_NameRight.mono:∀ a0 k,LeO (spec_NameRight.f k a0) (spec_NameRight.f (k+1) a0):=by
 intro a0 k
 obtain ⟨ih0,ih1⟩:=spec_NameRight.mono_l k
 unfold spec_NameRight.f
 repeat' first
   | (with_reducible exact ih0 _ _)
   | (with_reducible exact ih1 _ _)
   | (with_reducible exact LeO.refl _)
   | (with_reducible exact LeO.none _)
   | (with_reducible refine LeO.ite ?_ ?_)
   | (with_reducible refine LeO.bind ?_ (fun _=>?_))
   | exact ih0 _ _
   | exact ih1 _ _
   | exact LeO.none _
   | refine LeO.ite ?_ ?_
   | refine LeO.bind ?_ (fun _=>?_)
set_option maxHeartbeats 8000000 in
set_option maxRecDepth 100000 in
theorem spec_NameRight.calls (k:Nat) (a0:ByteArray) (r:Bool) (w:World) (h:spec_NameRight.f k a0=some r) :
  Calls Tryd.prog 21 #[.string a0] w fun e w'=>e = .returned (.bool r)∧Drawn0 w w':=by
 have H:(if (a0.size:Int)<1 then (spec_NameRight.j0 k a0 true) else (spec_NameRight.j0 k a0 (decide ((a0.size:Int)>20))))=some r:=h
 clear h
 have HC2:=Aside0.mk H
 clear H
 go_enter Tryd.func21,Tryd.ntmps21
 go_upto_region 1 with (fail)
 go_cut [12] (fun v12 wc=>∃ (kq:Nat) (x12_1:Bool),v12 = .bool x12_1∧Aside0 (spec_NameRight.j0 kq a0 x12_1=some r)∧Aside0 (kq≤k)∧Drawn0 w wc)
 case first =>
  have H:=HC2.out
  clear HC2
  by_cases c3:(a0.size:Int)<1
  ·rw [if_pos c3] at H
   have c3b0:decide ((a0.size:Int)<1)=true:=decide_eq_true c3
   have c3b1:decide (a0.size<1)=true:=decide_eq_true (by omega)
   clear c3
   (first | rw [c3b0] | (simp only [i64_w,i32_w];rw [c3b0]) | skip)
   have H':=Aside0.mk H
   clear H
   go_wp2
   go_meet
   case rel=>exact ⟨_,(true),(z2_),H',⟨by first | omega | exact Nat.le_refl _⟩,z6_⟩
  ·rw [if_neg c3] at H
   have c3b0:decide ((a0.size:Int)<1)=false:=decide_eq_false c3
   have c3b1:decide (a0.size<1)=false:=decide_eq_false (by omega)
   clear c3
   (first | rw [c3b0] | (simp only [i64_w,i32_w];rw [c3b0]) | skip)
   have H':=Aside0.mk H
   clear H
   go_wp2
   go_meet
   case rel=>exact ⟨_,(decide ((a0.size:Int)>20)),(z2_),H',⟨by first | omega | exact Nat.le_refl _⟩,z6_⟩
 case rest =>
  clear HC2
  try clear c2
  try clear p2
  try clear c3
  try clear c3b0
  try clear c3b1
  obtain ⟨kq,x12_1,rfl,HA,HJ1,⟨mc1,rfl⟩⟩:=hcut
  cases kq with
  | zero=>exact absurd HA.out (by simp [spec_NameRight.j0])
  | succ kj1 =>
   have H:=HA.out
   clear HA
   simp only [spec_NameRight.j0] at H
   by_cases c4:x12_1=true
   ·subst c4
    have H1:(some false)=some r:=by rw [if_pos rfl] at H;exact H
    clear H
    have H:=H1
    clear H1
    obtain rfl:=Option.some.inj H
    go_wp2
    go_ret
    exact ⟨z2_,z6_⟩
   ·replace c4:=Bool.eq_false_iff.mpr c4
    subst c4
    have H1:(spec_NameRight.l0 kj1 a0 0)=some r:=by rw [if_neg (show ¬ (false=true) by decide)] at H;exact H
    clear H
    have H:=H1
    clear H1
    have H':=Aside0.mk H
    clear H
    go_wp2
    go_loopg [3] kj1 (fun kq v3 w'=>∃ (x3_2:Int),v3 = .int .i64 x3_2∧Aside0 (spec_NameRight.l0 kq a0 x3_2=some r)∧Aside0 (kq≤kj1)∧Drawn0 w w')
    case atStart=>exact ⟨(0),(z2_),H',⟨Nat.le_refl _⟩,z6_⟩
    case round =>
     clear H'
     try clear c1
     try clear c2
     try clear p2
     try clear c3
     try clear c3b0
     try clear c3b1
     try clear c4
     try clear p2
     obtain ⟨x3_2,rfl,HA,HK2,⟨m2,rfl⟩⟩:=hrel
     cases gk with
     | zero=>exact absurd HA.out (by simp [spec_NameRight.l0])
     | succ k2 =>
      have H:=HA.out
      clear HA
      simp only [spec_NameRight.l0] at H
      by_cases c5:x3_2<(a0.size:Int)
      ·rw [if_pos c5] at H
       have c5b0:decide (x3_2<(a0.size:Int))=true:=decide_eq_true c5
       clear c5
       by_cases c6:0≤x3_2
       ·rw [if_pos c6] at H
        have c6b0:decide (0≤x3_2)=true:=decide_eq_true c6
        clear c6
        by_cases c8:(bt a0 x3_2)≥97
        ·rw [if_pos c8] at H
         have c8b0:decide (97≤(bt a0 x3_2))=true:=decide_eq_true c8
         clear c8
         by_cases c9:((bt a0 x3_2)≤122)
         ·rw [if_pos c9] at H
          have c9b0:decide ((bt a0 x3_2)≤122)=true:=decide_eq_true c9
          clear c9
          have H':=Aside0.mk H
          clear H
          have p7:0≤(x3_2:Int):=of_decide_eq_true (z0_)
          have q7:x3_2<(a0.size:Int):=of_decide_eq_true (z0_)
          have hx7:=bt_at a0 x3_2
          replace p7:=eq_true p7
          replace q7:=eq_true q7
          go_wp2
          go_roundg k2
          case measure=>have:=HJ1.out;have:=HK2.out;omega
          case rel=>exact ⟨(wrap64 (x3_2+1)),(z2_),H',⟨z13_ HJ1.out HK2.out⟩,z6_⟩
         ·rw [if_neg c9] at H
          have c9b0:decide ((bt a0 x3_2)≤122)=false:=decide_eq_false c9
          clear c9
          by_cases c10:x3_2=0
          ·rw [if_pos c10] at H
           have c10b0:(x3_2 == 0)=true:=beq_iff_eq.mpr c10
           have c10b1:(x3_2 != 0)=false:=bne_eq_false_iff_eq.mpr c10
           clear c10
           obtain rfl:=Option.some.inj H
           have p7:0≤(x3_2:Int):=of_decide_eq_true (z0_)
           have q7:x3_2<(a0.size:Int):=of_decide_eq_true (z0_)
           have hx7:=bt_at a0 x3_2
           replace p7:=eq_true p7
           replace q7:=eq_true q7
           go_wp2
           go_ret
           exact ⟨z2_,z6_⟩
          ·rw [if_neg c10] at H
           have c10b0:(x3_2 == 0)=false:=beq_eq_false_iff_ne.mpr c10
           have c10b1:(x3_2 != 0)=true:=bne_iff_ne.mpr c10
           by_cases c11:(bt a0 x3_2)≥48
           ·rw [if_pos c11] at H
            have c11b0:decide (48≤(bt a0 x3_2))=true:=decide_eq_true c11
            clear c11
            by_cases c12:((bt a0 x3_2)≤57)
            ·rw [if_pos c12] at H
             have c12b0:decide ((bt a0 x3_2)≤57)=true:=decide_eq_true c12
             clear c12
             have H':=Aside0.mk H
             clear H
             have p7:0≤(x3_2:Int):=of_decide_eq_true (z0_)
             have q7:x3_2<(a0.size:Int):=of_decide_eq_true (z0_)
             have hx7:=bt_at a0 x3_2
             replace p7:=eq_true p7
             replace q7:=eq_true q7
             go_wp2
             go_roundg k2
             case measure=>have:=HJ1.out;have:=HK2.out;omega
             case rel=>exact ⟨(wrap64 (x3_2+1)),(z2_),H',⟨z13_ HJ1.out HK2.out⟩,z6_⟩
            ·rw [if_neg c12] at H
             have c12b0:decide ((bt a0 x3_2)≤57)=false:=decide_eq_false c12
             clear c12
             by_cases c13:(bt a0 x3_2)=95
             ·rw [if_pos c13] at H
              have c13b0:((bt a0 x3_2) == 95)=true:=beq_iff_eq.mpr c13
              have c13b1:((bt a0 x3_2) != 95)=false:=bne_eq_false_iff_eq.mpr c13
              clear c13
              have H':=Aside0.mk H
              clear H
              have p7:0≤(x3_2:Int):=of_decide_eq_true (z0_)
              have q7:x3_2<(a0.size:Int):=of_decide_eq_true (z0_)
              have hx7:=bt_at a0 x3_2
              replace p7:=eq_true p7
              replace q7:=eq_true q7
              go_wp2
              go_roundg k2
              case measure=>have:=HJ1.out;have:=HK2.out;omega
              case rel=>exact ⟨(wrap64 (x3_2+1)),(z2_),H',⟨z13_ HJ1.out HK2.out⟩,z6_⟩
             ·rw [if_neg c13] at H
              have c13b0:((bt a0 x3_2) == 95)=false:=beq_eq_false_iff_ne.mpr c13
              have c13b1:((bt a0 x3_2) != 95)=true:=bne_iff_ne.mpr c13
              obtain rfl:=Option.some.inj H
              have p7:0≤(x3_2:Int):=of_decide_eq_true (z0_)
              have q7:x3_2<(a0.size:Int):=of_decide_eq_true (z0_)
              have hx7:=bt_at a0 x3_2
              replace p7:=eq_true p7
              replace q7:=eq_true q7
              go_wp2
              go_ret
              exact ⟨z2_,z6_⟩
           ·rw [if_neg c11] at H
            have c11b0:decide (48≤(bt a0 x3_2))=false:=decide_eq_false c11
            clear c11
            by_cases c14:(bt a0 x3_2)=95
            ·rw [if_pos c14] at H
             have c14b0:((bt a0 x3_2) == 95)=true:=beq_iff_eq.mpr c14
             have c14b1:((bt a0 x3_2) != 95)=false:=bne_eq_false_iff_eq.mpr c14
             clear c14
             have H':=Aside0.mk H
             clear H
             have p7:0≤(x3_2:Int):=of_decide_eq_true (z0_)
             have q7:x3_2<(a0.size:Int):=of_decide_eq_true (z0_)
             have hx7:=bt_at a0 x3_2
             replace p7:=eq_true p7
             replace q7:=eq_true q7
             go_wp2
             go_roundg k2
             case measure=>have:=HJ1.out;have:=HK2.out;omega
             case rel=>exact ⟨(wrap64 (x3_2+1)),(z2_),H',⟨z13_ HJ1.out HK2.out⟩,z6_⟩
            ·rw [if_neg c14] at H
             have c14b0:((bt a0 x3_2) == 95)=false:=beq_eq_false_iff_ne.mpr c14
             have c14b1:((bt a0 x3_2) != 95)=true:=bne_iff_ne.mpr c14
             obtain rfl:=Option.some.inj H
             have p7:0≤(x3_2:Int):=of_decide_eq_true (z0_)
             have q7:x3_2<(a0.size:Int):=of_decide_eq_true (z0_)
             have hx7:=bt_at a0 x3_2
             replace p7:=eq_true p7
             replace q7:=eq_true q7
             go_wp2
             go_ret
             exact ⟨z2_,z6_⟩
        ·rw [if_neg c8] at H
         have c8b0:decide (97≤(bt a0 x3_2))=false:=decide_eq_false c8
         clear c8
         by_cases c15:x3_2=0
         ·rw [if_pos c15] at H
          have c15b0:(x3_2 == 0)=true:=beq_iff_eq.mpr c15
          have c15b1:(x3_2 != 0)=false:=bne_eq_false_iff_eq.mpr c15
          clear c15
          obtain rfl:=Option.some.inj H
          have p7:0≤(x3_2:Int):=of_decide_eq_true (z0_)
          have q7:x3_2<(a0.size:Int):=of_decide_eq_true (z0_)
          have hx7:=bt_at a0 x3_2
          replace p7:=eq_true p7
          replace q7:=eq_true q7
          go_wp2
          go_ret
          exact ⟨z2_,z6_⟩
         ·rw [if_neg c15] at H
          have c15b0:(x3_2 == 0)=false:=beq_eq_false_iff_ne.mpr c15
          have c15b1:(x3_2 != 0)=true:=bne_iff_ne.mpr c15
          by_cases c16:(bt a0 x3_2)≥48
          ·rw [if_pos c16] at H
           have c16b0:decide (48≤(bt a0 x3_2))=true:=decide_eq_true c16
           clear c16
           by_cases c17:((bt a0 x3_2)≤57)
           ·rw [if_pos c17] at H
            have c17b0:decide ((bt a0 x3_2)≤57)=true:=decide_eq_true c17
            clear c17
            have H':=Aside0.mk H
            clear H
            have p7:0≤(x3_2:Int):=of_decide_eq_true (z0_)
            have q7:x3_2<(a0.size:Int):=of_decide_eq_true (z0_)
            have hx7:=bt_at a0 x3_2
            replace p7:=eq_true p7
            replace q7:=eq_true q7
            go_wp2
            go_roundg k2
            case measure=>have:=HJ1.out;have:=HK2.out;omega
            case rel=>exact ⟨(wrap64 (x3_2+1)),(z2_),H',⟨z13_ HJ1.out HK2.out⟩,z6_⟩
           ·rw [if_neg c17] at H
            have c17b0:decide ((bt a0 x3_2)≤57)=false:=decide_eq_false c17
            clear c17
            by_cases c18:(bt a0 x3_2)=95
            ·rw [if_pos c18] at H
             have c18b0:((bt a0 x3_2) == 95)=true:=beq_iff_eq.mpr c18
             have c18b1:((bt a0 x3_2) != 95)=false:=bne_eq_false_iff_eq.mpr c18
             clear c18
             have H':=Aside0.mk H
             clear H
             have p7:0≤(x3_2:Int):=of_decide_eq_true (z0_)
             have q7:x3_2<(a0.size:Int):=of_decide_eq_true (z0_)
             have hx7:=bt_at a0 x3_2
             replace p7:=eq_true p7
             replace q7:=eq_true q7
             go_wp2
             go_roundg k2
             case measure=>have:=HJ1.out;have:=HK2.out;omega
             case rel=>exact ⟨(wrap64 (x3_2+1)),(z2_),H',⟨z13_ HJ1.out HK2.out⟩,z6_⟩
            ·rw [if_neg c18] at H
             have c18b0:((bt a0 x3_2) == 95)=false:=beq_eq_false_iff_ne.mpr c18
             have c18b1:((bt a0 x3_2) != 95)=true:=bne_iff_ne.mpr c18
             obtain rfl:=Option.some.inj H
             have p7:0≤(x3_2:Int):=of_decide_eq_true (z0_)
             have q7:x3_2<(a0.size:Int):=of_decide_eq_true (z0_)
             have hx7:=bt_at a0 x3_2
             replace p7:=eq_true p7
             replace q7:=eq_true q7
             go_wp2
             go_ret
             exact ⟨z2_,z6_⟩
          ·rw [if_neg c16] at H
           have c16b0:decide (48≤(bt a0 x3_2))=false:=decide_eq_false c16
           clear c16
           by_cases c19:(bt a0 x3_2)=95
           ·rw [if_pos c19] at H
            have c19b0:((bt a0 x3_2) == 95)=true:=beq_iff_eq.mpr c19
            have c19b1:((bt a0 x3_2) != 95)=false:=bne_eq_false_iff_eq.mpr c19
            clear c19
            have H':=Aside0.mk H
            clear H
            have p7:0≤(x3_2:Int):=of_decide_eq_true (z0_)
            have q7:x3_2<(a0.size:Int):=of_decide_eq_true (z0_)
            have hx7:=bt_at a0 x3_2
            replace p7:=eq_true p7
            replace q7:=eq_true q7
            go_wp2
            go_roundg k2
            case measure=>have:=HJ1.out;have:=HK2.out;omega
            case rel=>exact ⟨(wrap64 (x3_2+1)),(z2_),H',⟨z13_ HJ1.out HK2.out⟩,z6_⟩
           ·rw [if_neg c19] at H
            have c19b0:((bt a0 x3_2) == 95)=false:=beq_eq_false_iff_ne.mpr c19
            have c19b1:((bt a0 x3_2) != 95)=true:=bne_iff_ne.mpr c19
            obtain rfl:=Option.some.inj H
            have p7:0≤(x3_2:Int):=of_decide_eq_true (z0_)
            have q7:x3_2<(a0.size:Int):=of_decide_eq_true (z0_)
            have hx7:=bt_at a0 x3_2
            replace p7:=eq_true p7
            replace q7:=eq_true q7
            go_wp2
            go_ret
            exact ⟨z2_,z6_⟩
       ·rw [if_neg c6] at H
        exact absurd H (by simp)
      ·rw [if_neg c5] at H
       have c5b0:decide (x3_2<(a0.size:Int))=false:=decide_eq_false c5
       clear c5
       obtain rfl:=Option.some.inj H
       go_wp2
       go_ret
       exact ⟨z2_,z6_⟩


/-! ### spec_l04Among: function 55 -/
def spec_l04Among.l0:Nat→List Int→Int→Int→Option (Bool)
 | 0,_,_,_=>none
 | k+1,x0,x1,x5=>if x5<(x0.length:Int) then (if 0≤x5 then (if (rd x0 x5)=x1 then (some true) else (spec_l04Among.l0 k x0 x1 (wrap64 (x5+1)))) else (none)) else (some false)
def spec_l04Among.f (k:Nat) (l0:List Int) (a1:Int):Option (Bool):=spec_l04Among.l0 k l0 a1 0
theorem spec_l04Among.mono_l:∀ k,(∀ y0 y1 y2,LeO (spec_l04Among.l0 k y0 y1 y2) (spec_l04Among.l0 (k+1) y0 y1 y2))
 | 0=>fun _ _ _ r h=>by simp [spec_l04Among.l0] at h
 | k+1=>by
  have ih0:=spec_l04Among.mono_l k
  ·intro y0 y1 y2
   unfold spec_l04Among.l0
   repeat' first
   | (with_reducible exact ih0 _ _ _)
   | (with_reducible exact LeO.refl _)
   | (with_reducible exact LeO.none _)
   | (with_reducible refine LeO.ite ?_ ?_)
   | (with_reducible refine LeO.bind ?_ (fun _=>?_))
   | exact ih0 _ _ _
   | exact LeO.none _
   | refine LeO.ite ?_ ?_
   | refine LeO.bind ?_ (fun _=>?_)
theorem spec_l04Among.mono:∀ a0 a1 k,LeO (spec_l04Among.f k a0 a1) (spec_l04Among.f (k+1) a0 a1):=by
 intro a0 a1 k
 have ih0:=spec_l04Among.mono_l k
 unfold spec_l04Among.f
 repeat' first
   | (with_reducible exact ih0 _ _ _)
   | (with_reducible exact LeO.refl _)
   | (with_reducible exact LeO.none _)
   | (with_reducible refine LeO.ite ?_ ?_)
   | (with_reducible refine LeO.bind ?_ (fun _=>?_))
   | exact ih0 _ _ _
   | exact LeO.none _
   | refine LeO.ite ?_ ?_
   | refine LeO.bind ?_ (fun _=>?_)
set_option maxHeartbeats 8000000 in
set_option maxRecDepth 100000 in
theorem spec_l04Among.calls (k:Nat) (A0:Option Addr) (c0:Nat) (l0:List Int) (a1:Int) (r:Bool) (w:World) (hr0:Kd.C (Kd.int .i64) w A0 l0.length l0) (hc0:l0.length≤c0) (h:spec_l04Among.f k l0 a1=some r) :
  Calls Tryd.prog 55 #[.slice A0 l0.length c0,.int .i64 a1] w fun e w'=>e = .returned (.bool r)∧Drawn0 w w':=by
 have HR0:=Aside0.mk hr0
 have HC0:=Aside0.mk hc0
 clear hr0 hc0
 have H:(spec_l04Among.l0 k l0 a1 0)=some r:=h
 clear h
 have H':=Aside0.mk H
 clear H
 go_enter Tryd.func55,Tryd.ntmps55
 go_wp2
 go_loopg [5] k (fun kq v5 w'=>∃ (x5_1:Int),v5 = .int .i64 x5_1∧Aside0 (spec_l04Among.l0 kq l0 a1 x5_1=some r)∧Aside0 (kq≤k)∧Drawn0 w w')
 case atStart=>exact ⟨(0),(z2_),H',⟨Nat.le_refl _⟩,z6_⟩
 case round =>
  clear H'
  try clear p2
  obtain ⟨x5_1,rfl,HA,HK1,⟨m1,rfl⟩⟩:=hrel
  cases gk with
  | zero=>exact absurd HA.out (by simp [spec_l04Among.l0])
  | succ k1 =>
   have H:=HA.out
   clear HA
   simp only [spec_l04Among.l0] at H
   by_cases c3:x5_1<(l0.length:Int)
   ·rw [if_pos c3] at H
    have c3b0:decide (x5_1<(l0.length:Int))=true:=decide_eq_true c3
    clear c3
    by_cases c4:0≤x5_1
    ·rw [if_pos c4] at H
     have c4b0:decide (0≤x5_1)=true:=decide_eq_true c4
     clear c4
     by_cases c5:(rd l0 x5_1)=a1
     ·rw [if_pos c5] at H
      have c5b0:((rd l0 x5_1) == a1)=true:=beq_iff_eq.mpr c5
      have c5b1:((rd l0 x5_1) != a1)=false:=bne_eq_false_iff_eq.mpr c5
      clear c5
      obtain rfl:=Option.some.inj H
      have p510:0≤(x5_1:Int):=of_decide_eq_true (z0_)
      have q510:x5_1<(l0.length:Int):=of_decide_eq_true (z0_)
      obtain ⟨ad510,e510,hx510_0⟩:=Kd.at_int HR0.out x5_1 p510 q510
      cases e510
      replace p510:=eq_true p510
      replace q510:=eq_true q510
      go_wp2
      go_ret
      exact ⟨z2_,z6_⟩
     ·rw [if_neg c5] at H
      have c5b0:((rd l0 x5_1) == a1)=false:=beq_eq_false_iff_ne.mpr c5
      have c5b1:((rd l0 x5_1) != a1)=true:=bne_iff_ne.mpr c5
      have H':=Aside0.mk H
      clear H
      have p510:0≤(x5_1:Int):=of_decide_eq_true (z0_)
      have q510:x5_1<(l0.length:Int):=of_decide_eq_true (z0_)
      obtain ⟨ad510,e510,hx510_0⟩:=Kd.at_int HR0.out x5_1 p510 q510
      cases e510
      replace p510:=eq_true p510
      replace q510:=eq_true q510
      go_wp2
      go_roundg k1
      case measure=>have:=HK1.out;omega
      case rel=>exact ⟨(wrap64 (x5_1+1)),(z2_),H',⟨by have:=HK1.out;omega⟩,z6_⟩
    ·rw [if_neg c4] at H
     exact absurd H (by simp)
   ·rw [if_neg c3] at H
    have c3b0:decide (x5_1<(l0.length:Int))=false:=decide_eq_false c3
    clear c3
    obtain rfl:=Option.some.inj H
    go_wp2
    go_ret
    exact ⟨z2_,z6_⟩


/-! ### spec_l04Order: function 90 -/
mutual
def spec_l04Order.l0:Nat→Int→Int→Int→List (S77)→Option (List Int)
 | 0,_,_,_,_=>none
 | k+1,x5,x6,x512000,x512001=>if x6<(x512001.length:Int) then (if 0≤x6 then (spec_l04Order.j1 k x5 x6 (decide (((rd_T77 x512001 x6).f0)<x5)) x512000 x512001) else (none)) else (spec_l04Order.j1 k x5 x6 false x512000 x512001)
def spec_l04Order.j1:Nat→Int→Int→Bool→Int→List (S77)→Option (List Int)
 | 0,_,_,_,_,_=>none
 | k+1,x5,x6,x26,x512000,x512001=>if x26=true then (spec_l04Order.l0 k x5 (wrap64 (x6+1)) x512000 x512001) else (spec_l04Order.l1 k x6 (([]:List Int)) 0 x512000 x512001)
def spec_l04Order.l1:Nat→Int→List Int→Int→Int→List (S77)→Option (List Int)
 | 0,_,_,_,_,_=>none
 | k+1,x6,x7,x8,x512000,x512001=>if x8<(x512001.length:Int) then (if (x512001.length:Int)=0 then (none) else (if 0≤(Int.tmod (wrap64 (x6+x8)) (x512001.length:Int)) then (if (Int.tmod (wrap64 (x6+x8)) (x512001.length:Int))<(x512001.length:Int) then ((spec_l04Among.f k x7 ((rd_T77 x512001 (Int.tmod (wrap64 (x6+x8)) (x512001.length:Int))).f1)).bind fun t518=>(if t518=true then (spec_l04Order.l1 k x6 x7 (wrap64 (x8+1)) x512000 x512001) else (if x7.length<17592186044416 then (spec_l04Order.l1 k x6 (x7 ++ [(rd_T77 x512001 (Int.tmod (wrap64 (x6+x8)) (x512001.length:Int))).f1]) (wrap64 (x8+1)) x512000 x512001) else (none)))) else (none)) else (none))) else (some x7)
end
def spec_l04Order.f (k:Nat) (a0_0:Int) (l0_1:List (S77)) (a1:ByteArray):Option (List Int):=(spec_l04Fnv.f k a1).bind fun t512=>(spec_l04Order.l0 k t512 0 a0_0 l0_1)
theorem spec_l04Order.mono_l:∀ k,(∀ y0 y1 y2 y3,LeO (spec_l04Order.l0 k y0 y1 y2 y3) (spec_l04Order.l0 (k+1) y0 y1 y2 y3))∧(∀ y0 y1 y2 y3 y4,LeO (spec_l04Order.j1 k y0 y1 y2 y3 y4) (spec_l04Order.j1 (k+1) y0 y1 y2 y3 y4))∧(∀ y0 y1 y2 y3 y4,LeO (spec_l04Order.l1 k y0 y1 y2 y3 y4) (spec_l04Order.l1 (k+1) y0 y1 y2 y3 y4))
 | 0=>⟨fun _ _ _ _ r h=>by simp [spec_l04Order.l0] at h,fun _ _ _ _ _ r h=>by simp [spec_l04Order.j1] at h,fun _ _ _ _ _ r h=>by simp [spec_l04Order.l1] at h⟩
 | k+1=>by
  obtain ⟨ih0,ih1,ih2⟩:=spec_l04Order.mono_l k
  refine ⟨?_,?_,?_⟩
  ·intro y0 y1 y2 y3
   unfold spec_l04Order.l0
   repeat' first
   | (with_reducible exact ih0 _ _ _ _)
   | (with_reducible exact ih1 _ _ _ _ _)
   | (with_reducible exact ih2 _ _ _ _ _)
   | (with_reducible exact spec_l04Among.mono _ _ _)
   | (with_reducible exact spec_l04Fnv.mono _ _)
   | (with_reducible exact LeO.refl _)
   | (with_reducible exact LeO.none _)
   | (with_reducible refine LeO.ite ?_ ?_)
   | (with_reducible refine LeO.bind ?_ (fun _=>?_))
   | exact ih0 _ _ _ _
   | exact ih1 _ _ _ _ _
   | exact ih2 _ _ _ _ _
   | exact spec_l04Among.mono _ _ _
   | exact spec_l04Fnv.mono _ _
   | exact LeO.none _
   | refine LeO.ite ?_ ?_
   | refine LeO.bind ?_ (fun _=>?_)
  ·intro y0 y1 y2 y3 y4
   unfold spec_l04Order.j1
   repeat' first
   | (with_reducible exact ih0 _ _ _ _)
   | (with_reducible exact ih1 _ _ _ _ _)
   | (with_reducible exact ih2 _ _ _ _ _)
   | (with_reducible exact spec_l04Among.mono _ _ _)
   | (with_reducible exact spec_l04Fnv.mono _ _)
   | (with_reducible exact LeO.refl _)
   | (with_reducible exact LeO.none _)
   | (with_reducible refine LeO.ite ?_ ?_)
   | (with_reducible refine LeO.bind ?_ (fun _=>?_))
   | exact ih0 _ _ _ _
   | exact ih1 _ _ _ _ _
   | exact ih2 _ _ _ _ _
   | exact spec_l04Among.mono _ _ _
   | exact spec_l04Fnv.mono _ _
   | exact LeO.none _
   | refine LeO.ite ?_ ?_
   | refine LeO.bind ?_ (fun _=>?_)
  ·intro y0 y1 y2 y3 y4
   unfold spec_l04Order.l1
   repeat' first
   | (with_reducible exact ih0 _ _ _ _)
   | (with_reducible exact ih1 _ _ _ _ _)
   | (with_reducible exact ih2 _ _ _ _ _)
   | (with_reducible exact spec_l04Among.mono _ _ _)
   | (with_reducible exact spec_l04Fnv.mono _ _)
   | (with_reducible exact LeO.refl _)
   | (with_reducible exact LeO.none _)
   | (with_reducible refine LeO.ite ?_ ?_)
   | (with_reducible refine LeO.bind ?_ (fun _=>?_))
   | exact ih0 _ _ _ _
   | exact ih1 _ _ _ _ _
   | exact ih2 _ _ _ _ _
   | exact spec_l04Among.mono _ _ _
   | exact spec_l04Fnv.mono _ _
   | exact LeO.none _
   | refine LeO.ite ?_ ?_
   | refine LeO.bind ?_ (fun _=>?_)
theorem spec_l04Order.mono:∀ a0 a1 a2 k,LeO (spec_l04Order.f k a0 a1 a2) (spec_l04Order.f (k+1) a0 a1 a2):=by
 intro a0 a1 a2 k
 obtain ⟨ih0,ih1,ih2⟩:=spec_l04Order.mono_l k
 unfold spec_l04Order.f
 repeat' first
   | (with_reducible exact ih0 _ _ _ _)
   | (with_reducible exact ih1 _ _ _ _ _)
   | (with_reducible exact ih2 _ _ _ _ _)
   | (with_reducible exact spec_l04Among.mono _ _ _)
   | (with_reducible exact spec_l04Fnv.mono _ _)
   | (with_reducible exact LeO.refl _)
   | (with_reducible exact LeO.none _)
   | (with_reducible refine LeO.ite ?_ ?_)
   | (with_reducible refine LeO.bind ?_ (fun _=>?_))
   | exact ih0 _ _ _ _
   | exact ih1 _ _ _ _ _
   | exact ih2 _ _ _ _ _
   | exact spec_l04Among.mono _ _ _
   | exact spec_l04Fnv.mono _ _
   | exact LeO.none _
   | refine LeO.ite ?_ ?_
   | refine LeO.bind ?_ (fun _=>?_)
set_option maxHeartbeats 8000000 in
set_option maxRecDepth 100000 in
theorem spec_l04Order.calls (k:Nat) (a0_0:Int) (A0_1:Option Addr) (c0_1:Nat) (l0_1:List (S77)) (a1:ByteArray) (r:List Int) (w:World) (hr0_1:Kd.C k77 w A0_1 l0_1.length l0_1) (hc0_1:l0_1.length≤c0_1) (h:spec_l04Order.f k a0_0 l0_1 a1=some r) :
  Calls Tryd.prog 90 #[.agg #[.int .i64 a0_0,.slice A0_1 l0_1.length c0_1],.string a1] w fun e w'=>∃ v0_:Value,e = .returned (v0_)∧Kd.R (Kd.int .i64) 2 w' w.heap.size (fun _=>True) v0_ r∧Below w.heap.size w w':=by
 have hu24:=Tryd.underlying24
 have HR0_1:=Aside0.mk hr0_1
 have HC0_1:=Aside0.mk hc0_1
 clear hr0_1 hc0_1
 have HB:=Aside0.mk (Below.refl w.heap.size w)
 have H:((spec_l04Fnv.f k a1).bind fun t512=>(spec_l04Order.l0 k t512 0 a0_0 l0_1))=some r:=h
 clear h
 replace H:=Option.bind_eq_some_iff.mp H
 obtain ⟨t512,A30,H⟩:=H
 replace H:(spec_l04Order.l0 k t512 0 a0_0 l0_1)=some r:=H
 have A3:=Aside0.mk A30
 clear A30
 have H':=Aside0.mk H
 clear H
 go_enter Tryd.func90,Tryd.ntmps90
 go_wp2_with (first | ((with_reducible refine gd_ 2 ?_);refine be_ 2 #[.int .i64 a0_0,.slice A0_1 l0_1.length c0_1] 24 ?_;intro gb511 hg w4 hbox hb;refine as4_ (below_step (z4_ HB.out) hb) (hbox) ((z8_ HB.out:w.heap.size≤gb511)) ((z8_ HB.out:w.heap.size≤gb511)) ?_;clear HB;intro HB BK511 GW511 GE511;clear hb hbox hg) | (go_at_call 73;(with_reducible refine (spec_l04Fnv.calls k a1 t512 _ A3.out).mono ?_);rintro e w' ⟨rfl,⟨nd,rfl⟩⟩;(try first | exact ⟨rfl,_,World.drewN_drewN _ _ _⟩ | exact ⟨rfl,_,Eq.trans (World.drewN_drewN _ _ _) (congrArg (World.drewN _) (Nat.add_assoc _ _ _))⟩)))
 repeat (go_quiet (first | ((with_reducible refine gd_ 2 ?_);refine be_ 2 #[.int .i64 a0_0,.slice A0_1 l0_1.length c0_1] 24 ?_;intro gb511 hg w4 hbox hb;refine as4_ (below_step (z4_ HB.out) hb) (hbox) ((z8_ HB.out:w.heap.size≤gb511)) ((z8_ HB.out:w.heap.size≤gb511)) ?_;clear HB;intro HB BK511 GW511 GE511;clear hb hbox hg) | (go_at_call 73;(with_reducible refine (spec_l04Fnv.calls k a1 t512 _ A3.out).mono ?_);rintro e w' ⟨rfl,⟨nd,rfl⟩⟩;(try first | exact ⟨rfl,_,World.drewN_drewN _ _ _⟩ | exact ⟨rfl,_,Eq.trans (World.drewN_drewN _ _ _) (congrArg (World.drewN _) (Nat.add_assoc _ _ _))⟩)));try go_wp2_with (first | ((with_reducible refine gd_ 2 ?_);refine be_ 2 #[.int .i64 a0_0,.slice A0_1 l0_1.length c0_1] 24 ?_;intro gb511 hg w4 hbox hb;refine as4_ (below_step (z4_ HB.out) hb) (hbox) ((z8_ HB.out:w.heap.size≤gb511)) ((z8_ HB.out:w.heap.size≤gb511)) ?_;clear HB;intro HB BK511 GW511 GE511;clear hb hbox hg) | (go_at_call 73;(with_reducible refine (spec_l04Fnv.calls k a1 t512 _ A3.out).mono ?_);rintro e w' ⟨rfl,⟨nd,rfl⟩⟩;(try first | exact ⟨rfl,_,World.drewN_drewN _ _ _⟩ | exact ⟨rfl,_,Eq.trans (World.drewN_drewN _ _ _) (congrArg (World.drewN _) (Nat.add_assoc _ _ _))⟩))))
 go_loopg [6] k (fun kq v6 w'=>∃ (x6_1:Int),v6 = .int .i64 x6_1∧Aside0 (spec_l04Order.l0 kq t512 x6_1 a0_0 l0_1=some r)∧Aside0 (kq≤k)∧Aside0 (w'.heap[gb511]? = some (.cells #[.int .i64 a0_0,(.slice A0_1 l0_1.length c0_1)] 24 (0,0)))∧Aside0 (Below w.heap.size w w'))
 case atStart=>exact ⟨(0),(z2_),H',⟨Nat.le_refl _⟩,⟨z3_ BK511.out⟩,⟨z7_ HB.out GE511.out⟩⟩
 case round =>
  clear H'
  try clear p2
  obtain ⟨x6_1,rfl,HA,HK1,BK511,HB⟩:=hrel
  cases gk with
  | zero=>exact absurd HA.out (by simp [spec_l04Order.l0])
  | succ k1 =>
   have H:=HA.out
   clear HA
   simp only [spec_l04Order.l0] at H
   have HC5:=Aside0.mk H
   clear H
   go_upto_region 3 with (fail)
   repeat (go_quiet (fail);go_upto_region 3 with (fail))
   go_cut [26] (fun v26 wc=>∃ (kq:Nat) (x26_4:Bool),v26 = .bool x26_4∧Aside0 (spec_l04Order.j1 kq t512 x6_1 x26_4 a0_0 l0_1=some r)∧Aside0 (kq≤k1)∧Aside0 (wc.heap[gb511]? = some (.cells #[.int .i64 a0_0,(.slice A0_1 l0_1.length c0_1)] 24 (0,0)))∧Aside0 (Below w.heap.size w wc))
   case first =>
    have H:=HC5.out
    clear HC5
    by_cases c6:x6_1<(l0_1.length:Int)
    ·rw [if_pos c6] at H
     have c6b0:decide (x6_1<(l0_1.length:Int))=true:=decide_eq_true c6
     clear c6
     (first | rw [c6b0] | (simp only [i64_w,i32_w];rw [c6b0]) | skip)
     by_cases c7:0≤x6_1
     ·rw [if_pos c7] at H
      have c7b0:decide (0≤x6_1)=true:=decide_eq_true c7
      clear c7
      have H':=Aside0.mk H
      clear H
      have ⟨hcz8_0,hcz8_1,hfz8_0,hfz8_1⟩:=cz2_ BK511.out
      have p513:0≤(x6_1:Int):=of_decide_eq_true (z0_)
      have q513:x6_1<(l0_1.length:Int):=of_decide_eq_true (z0_)
      obtain ⟨ad513,e513,hx513_0,hx513_1⟩:=at_T77 HR0_1.out x6_1 p513 q513
      cases e513
      replace hx513_0:=(HB.out.cell (World.block_lt_of_cell? w _ hx513_0)).trans hx513_0
      replace hx513_1:=(HB.out.cell (World.block_lt_of_cell? w _ hx513_1)).trans hx513_1
      replace p513:=eq_true p513
      replace q513:=eq_true q513
      go_wp2
      repeat (go_quiet (fail);try go_wp2)
      go_meet
      case rel=>exact ⟨_,(decide (((rd_T77 l0_1 x6_1).f0)<t512)),(z2_),H',⟨z26_ HK1.out⟩,⟨z3_ BK511.out⟩,⟨z7_ HB.out GE511.out⟩⟩
     ·rw [if_neg c7] at H
      exact absurd H (by simp)
    ·rw [if_neg c6] at H
     have c6b0:decide (x6_1<(l0_1.length:Int))=false:=decide_eq_false c6
     clear c6
     (first | rw [c6b0] | (simp only [i64_w,i32_w];rw [c6b0]) | skip)
     have H':=Aside0.mk H
     clear H
     have ⟨hcz9_0,hcz9_1,hfz9_0,hfz9_1⟩:=cz2_ BK511.out
     go_wp2
     repeat (go_quiet (fail);try go_wp2)
     go_meet
     case rel=>exact ⟨_,(false),(z2_),H',⟨z26_ HK1.out⟩,⟨z3_ BK511.out⟩,⟨z7_ HB.out GE511.out⟩⟩
   case rest =>
    clear HC5
    try clear p2
    try clear p5
    try clear q5
    try clear hx5
    try clear c6
    try clear c6b0
    try clear c7
    try clear c7b0
    try clear c9
    try clear hcz8_0
    try clear hcz8_1
    try clear hcz9_0
    try clear hcz9_1
    try clear hfz8_0
    try clear hfz8_1
    try clear hfz9_0
    try clear hfz9_1
    try clear hx513_0
    try clear hx513_1
    try clear p2
    try clear p513
    try clear q513
    obtain ⟨kq,x26_4,rfl,HA,HJ4,BK511,HB⟩:=hcut
    cases kq with
    | zero=>exact absurd HA.out (by simp [spec_l04Order.j1])
    | succ kj4 =>
     have H:=HA.out
     clear HA
     simp only [spec_l04Order.j1] at H
     by_cases c10:x26_4=true
     ·subst c10
      have H1:(spec_l04Order.l0 kj4 t512 (wrap64 (x6_1+1)) a0_0 l0_1)=some r:=by rw [if_pos rfl] at H;exact H
      clear H
      have H:=H1
      clear H1
      have H':=Aside0.mk H
      clear H
      go_wp2
      repeat (go_quiet (fail);try go_wp2)
      go_roundg kj4
      case measure=>have:=HK1.out;have:=HJ4.out;omega
      case rel=>exact ⟨(wrap64 (x6_1+1)),(z2_),H',⟨z13_ HK1.out HJ4.out⟩,⟨z3_ BK511.out⟩,⟨z7_ HB.out GE511.out⟩⟩
     ·replace c10:=Bool.eq_false_iff.mpr c10
      subst c10
      have H1:(spec_l04Order.l1 kj4 x6_1 (([]:List Int)) 0 a0_0 l0_1)=some r:=by rw [if_neg (show ¬ (false=true) by decide)] at H;exact H
      clear H
      have H:=H1
      clear H1
      obtain ⟨y514,hy514⟩:∃ y_:List Int,y_=(([]:List Int)):=⟨_,rfl⟩
      replace H:(spec_l04Order.l1 kj4 x6_1 y514 0 a0_0 l0_1)=some r:=by first | (rw [hy514];with_reducible exact H) | (have H2_:=(Option.bind_some _ _).symm.trans H;rw [hy514];with_reducible exact H2_) | (have H2_:=(Option.bind_some _ _).symm.trans H;with_reducible exact H2_) | with_reducible exact H | (rw [hy514];exact H) | exact H
      have Ny514:=Aside0.mk hy514
      clear hy514
      have H':=Aside0.mk H
      clear H
      go_wp2_with (first | ((with_reducible refine gd_ 29 ?_);refine Kd.R_lit (Kd.int .i64) _ 2 ?hg (N:=29) ?hd (xs:=([]:List Int)) (inner:=[]) (ok:=fun _=>True) (okp:=fun _=>True) ?hr ?hp (fun _ hk=>hk) trivial (Below.refl _ _) (Nat.le_refl _) (by simp) ?_;(case hd=>rfl);(case hg=>rfl);(case hr=>first | (go_simp;done) | (go_simp;rfl));(case hp=>exact (Reps.none _ _));intro v515 w11 ho12 hb hg_ hnew_;clear hg_ hnew_;(first | rw [← Ny514.out] at ho12 | (simp only [Int.reduceToNat] at ho12;rw [← Ny514.out] at ho12));refine as3_ (Kd.R_lower ho12 (below_size (z7_ HB.out GE511.out))) (blkB_ BK511.out hb) (below_step (z7_ HB.out GE511.out) hb) ?_;clear BK511 HB;intro HO516 BK511 HB;clear hb ho12))
      repeat (go_quiet (first | ((with_reducible refine gd_ 29 ?_);refine Kd.R_lit (Kd.int .i64) _ 2 ?hg (N:=29) ?hd (xs:=([]:List Int)) (inner:=[]) (ok:=fun _=>True) (okp:=fun _=>True) ?hr ?hp (fun _ hk=>hk) trivial (Below.refl _ _) (Nat.le_refl _) (by simp) ?_;(case hd=>rfl);(case hg=>rfl);(case hr=>first | (go_simp;done) | (go_simp;rfl));(case hp=>exact (Reps.none _ _));intro v515 w11 ho12 hb hg_ hnew_;clear hg_ hnew_;(first | rw [← Ny514.out] at ho12 | (simp only [Int.reduceToNat] at ho12;rw [← Ny514.out] at ho12));refine as3_ (Kd.R_lower ho12 (below_size (z7_ HB.out GE511.out))) (blkB_ BK511.out hb) (below_step (z7_ HB.out GE511.out) hb) ?_;clear BK511 HB;intro HO516 BK511 HB;clear hb ho12));try go_wp2_with (first | ((with_reducible refine gd_ 29 ?_);refine Kd.R_lit (Kd.int .i64) _ 2 ?hg (N:=29) ?hd (xs:=([]:List Int)) (inner:=[]) (ok:=fun _=>True) (okp:=fun _=>True) ?hr ?hp (fun _ hk=>hk) trivial (Below.refl _ _) (Nat.le_refl _) (by simp) ?_;(case hd=>rfl);(case hg=>rfl);(case hr=>first | (go_simp;done) | (go_simp;rfl));(case hp=>exact (Reps.none _ _));intro v515 w11 ho12 hb hg_ hnew_;clear hg_ hnew_;(first | rw [← Ny514.out] at ho12 | (simp only [Int.reduceToNat] at ho12;rw [← Ny514.out] at ho12));refine as3_ (Kd.R_lower ho12 (below_size (z7_ HB.out GE511.out))) (blkB_ BK511.out hb) (below_step (z7_ HB.out GE511.out) hb) ?_;clear BK511 HB;intro HO516 BK511 HB;clear hb ho12)))
      go_loopg [7,8] kj4 (fun kq v7 v8 w'=>∃ (x7_3:List Int) (x8_3:Int),v8 = .int .i64 x8_3∧Aside0 (spec_l04Order.l1 kq x6_1 x7_3 x8_3 a0_0 l0_1=some r)∧Aside0 (kq≤kj4)∧Aside0 (Kd.R (Kd.int .i64) 2 w' w.heap.size (fun _=>True) v7 x7_3)∧Aside0 (w'.heap[gb511]? = some (.cells #[.int .i64 a0_0,(.slice A0_1 l0_1.length c0_1)] 24 (0,0)))∧Aside0 (Below w.heap.size w w'))
      case atStart=>exact ⟨(y514),(0),(z2_),H',⟨Nat.le_refl _⟩,⟨z1_ HO516.out⟩,⟨z3_ BK511.out⟩,⟨z7_ HB.out GE511.out⟩⟩
      case round =>
       clear H'
       try clear c1
       try clear p2
       try clear p5
       try clear q5
       try clear hx5
       try clear c6
       try clear c6b0
       try clear p6
       try clear c7
       try clear c7b0
       try clear c9
       try clear c10
       try clear hcz8_0
       try clear hcz8_1
       try clear hcz9_0
       try clear hcz9_1
       try clear hfz8_0
       try clear hfz8_1
       try clear hfz9_0
       try clear hfz9_1
       try clear hx513_0
       try clear hx513_1
       try clear p2
       try clear p5
       try clear p513
       try clear q5
       try clear q513
       obtain ⟨x7_3,x8_3,rfl,HA,HK3,HO_7,BK511,HB⟩:=hrel
       cases gk with
       | zero=>exact absurd HA.out (by simp [spec_l04Order.l1])
       | succ k3 =>
        have H:=HA.out
        clear HA
        simp only [spec_l04Order.l1] at H
        by_cases c13:x8_3<(l0_1.length:Int)
        ·rw [if_pos c13] at H
         have c13b0:decide (x8_3<(l0_1.length:Int))=true:=decide_eq_true c13
         clear c13
         by_cases c14:(l0_1.length:Int)=0
         ·rw [if_pos c14] at H
          exact absurd H (by simp)
         ·rw [if_neg c14] at H
          have c14b0:((l0_1.length:Int) == 0)=false:=beq_eq_false_iff_ne.mpr c14
          have c14b1:((l0_1.length:Int) != 0)=true:=bne_iff_ne.mpr c14
          have c14b2:¬ (l0_1=[]):=fun h_=>c14 (by rw [h_];rfl)
          obtain ⟨ji15,hji15⟩:∃ j_:Int,(Int.tmod (wrap64 (x6_1+x8_3)) (l0_1.length:Int))=j_:=⟨_,rfl⟩
          replace H:(if 0≤(ji15) then (if (ji15)<(l0_1.length:Int) then ((spec_l04Among.f k3 x7_3 ((rd_T77 l0_1 (ji15)).f1)).bind fun t518=>(if t518=true then (spec_l04Order.l1 k3 x6_1 x7_3 (wrap64 (x8_3+1)) a0_0 l0_1) else (if x7_3.length<17592186044416 then (spec_l04Order.l1 k3 x6_1 (x7_3 ++ [(rd_T77 l0_1 (ji15)).f1]) (wrap64 (x8_3+1)) a0_0 l0_1) else (none)))) else (none)) else (none))=some r:=by first | (rw [hji15] at H;exact H) | (simp only [hji15] at H ⊢;exact H)
          by_cases c16:0≤(ji15)
          ·rw [if_pos c16] at H
           have c16b0:decide (0≤(ji15))=true:=decide_eq_true c16
           clear c16
           by_cases c17:(ji15)<(l0_1.length:Int)
           ·rw [if_pos c17] at H
            have c17b0:decide ((ji15)<(l0_1.length:Int))=true:=decide_eq_true c17
            clear c17
            replace H:=Option.bind_eq_some_iff.mp H
            obtain ⟨t518,A180,H⟩:=H
            replace H:(if t518=true then (spec_l04Order.l1 k3 x6_1 x7_3 (wrap64 (x8_3+1)) a0_0 l0_1) else (if x7_3.length<17592186044416 then (spec_l04Order.l1 k3 x6_1 (x7_3 ++ [(rd_T77 l0_1 (ji15)).f1]) (wrap64 (x8_3+1)) a0_0 l0_1) else (none)))=some r:=H
            have A18:=Aside0.mk A180
            clear A180
            by_cases c19:t518=true
            ·subst c19
             have H1:(spec_l04Order.l1 k3 x6_1 x7_3 (wrap64 (x8_3+1)) a0_0 l0_1)=some r:=by rw [if_pos rfl] at H;exact H
             clear H
             have H:=H1
             clear H1
             have H':=Aside0.mk H
             clear H
             have ⟨hcz20_0,hcz20_1,hfz20_0,hfz20_1⟩:=cz2_ BK511.out
             have p517:0≤((ji15):Int):=of_decide_eq_true (z0_)
             have q517:(ji15)<(l0_1.length:Int):=of_decide_eq_true (z0_)
             obtain ⟨ad517,e517,hx517_0,hx517_1⟩:=at_T77 HR0_1.out (ji15) p517 q517
             cases e517
             replace hx517_0:=(HB.out.cell (World.block_lt_of_cell? w _ hx517_0)).trans hx517_0
             replace hx517_1:=(HB.out.cell (World.block_lt_of_cell? w _ hx517_1)).trans hx517_1
             replace p517:=eq_true p517
             replace q517:=eq_true q517
             obtain ⟨Ao21,co21,eo21⟩:=Kd.R_slice HO_7.out
             subst eo21
             go_wp2_with (first | (go_at_call 55;(with_reducible refine (spec_l04Among.calls k3 _ _ x7_3 ((rd_T77 l0_1 (ji15)).f1) true _ ?s1 ?s2 A18.out).mono ?_);(case s1=>repeat (first | exact (Kd.R_reads' HO_7.out).2.2 | (with_reducible refine Kd.C_alloc ?_ _) | (with_reducible refine Kd.C_drewN ?_ _) | (with_reducible refine Kd.C_drew ?_)));(case s2=>exact (Kd.R_reads' HO_7.out).2.1);rintro e w' ⟨rfl,⟨nd,rfl⟩⟩;(try first | exact ⟨rfl,_,World.drewN_drewN _ _ _⟩ | exact ⟨rfl,_,Eq.trans (World.drewN_drewN _ _ _) (congrArg (World.drewN _) (Nat.add_assoc _ _ _))⟩)))
             repeat (go_quiet (first | (go_at_call 55;(with_reducible refine (spec_l04Among.calls k3 _ _ x7_3 ((rd_T77 l0_1 (ji15)).f1) true _ ?s1 ?s2 A18.out).mono ?_);(case s1=>repeat (first | exact (Kd.R_reads' HO_7.out).2.2 | (with_reducible refine Kd.C_alloc ?_ _) | (with_reducible refine Kd.C_drewN ?_ _) | (with_reducible refine Kd.C_drew ?_)));(case s2=>exact (Kd.R_reads' HO_7.out).2.1);rintro e w' ⟨rfl,⟨nd,rfl⟩⟩;(try first | exact ⟨rfl,_,World.drewN_drewN _ _ _⟩ | exact ⟨rfl,_,Eq.trans (World.drewN_drewN _ _ _) (congrArg (World.drewN _) (Nat.add_assoc _ _ _))⟩)));try go_wp2_with (first | (go_at_call 55;(with_reducible refine (spec_l04Among.calls k3 _ _ x7_3 ((rd_T77 l0_1 (ji15)).f1) true _ ?s1 ?s2 A18.out).mono ?_);(case s1=>repeat (first | exact (Kd.R_reads' HO_7.out).2.2 | (with_reducible refine Kd.C_alloc ?_ _) | (with_reducible refine Kd.C_drewN ?_ _) | (with_reducible refine Kd.C_drew ?_)));(case s2=>exact (Kd.R_reads' HO_7.out).2.1);rintro e w' ⟨rfl,⟨nd,rfl⟩⟩;(try first | exact ⟨rfl,_,World.drewN_drewN _ _ _⟩ | exact ⟨rfl,_,Eq.trans (World.drewN_drewN _ _ _) (congrArg (World.drewN _) (Nat.add_assoc _ _ _))⟩))))
             go_roundg k3
             case measure=>have:=HK1.out;have:=HJ4.out;have:=HK3.out;omega
             case rel=>exact ⟨(x7_3),(wrap64 (x8_3+1)),(z2_),H',⟨by have:=HK1.out;have:=HJ4.out;have:=HK3.out;omega⟩,⟨z1_ HO_7.out⟩,⟨z3_ BK511.out⟩,⟨z7_ HB.out GE511.out⟩⟩
            ·replace c19:=Bool.eq_false_iff.mpr c19
             subst c19
             have H1:(if x7_3.length<17592186044416 then (spec_l04Order.l1 k3 x6_1 (x7_3 ++ [(rd_T77 l0_1 (ji15)).f1]) (wrap64 (x8_3+1)) a0_0 l0_1) else (none))=some r:=by rw [if_neg (show ¬ (false=true) by decide)] at H;exact H
             clear H
             have H:=H1
             clear H1
             by_cases c22:x7_3.length<17592186044416
             ·rw [if_pos c22] at H
              have LMc22:=Aside0.mk c22
              clear c22
              obtain ⟨y519,hy519⟩:∃ y_:List Int,y_=(x7_3 ++ [(rd_T77 l0_1 (ji15)).f1]):=⟨_,rfl⟩
              replace H:(spec_l04Order.l1 k3 x6_1 y519 (wrap64 (x8_3+1)) a0_0 l0_1)=some r:=by first | (rw [hy519];with_reducible exact H) | (have H2_:=(Option.bind_some _ _).symm.trans H;rw [hy519];with_reducible exact H2_) | (have H2_:=(Option.bind_some _ _).symm.trans H;with_reducible exact H2_) | with_reducible exact H | (rw [hy519];exact H) | exact H
              have Ny519:=Aside0.mk hy519
              clear hy519
              have H':=Aside0.mk H
              clear H
              have ⟨hcz23_0,hcz23_1,hfz23_0,hfz23_1⟩:=cz2_ BK511.out
              have p517:0≤((ji15):Int):=of_decide_eq_true (z0_)
              have q517:(ji15)<(l0_1.length:Int):=of_decide_eq_true (z0_)
              obtain ⟨ad517,e517,hx517_0,hx517_1⟩:=at_T77 HR0_1.out (ji15) p517 q517
              cases e517
              replace hx517_0:=(HB.out.cell (World.block_lt_of_cell? w _ hx517_0)).trans hx517_0
              replace hx517_1:=(HB.out.cell (World.block_lt_of_cell? w _ hx517_1)).trans hx517_1
              replace p517:=eq_true p517
              replace q517:=eq_true q517
              obtain ⟨Ao24,co24,eo24⟩:=Kd.R_slice HO_7.out
              subst eo24
              go_wp2_with (first | (go_at_call 55;(with_reducible refine (spec_l04Among.calls k3 _ _ x7_3 ((rd_T77 l0_1 (ji15)).f1) false _ ?s1 ?s2 A18.out).mono ?_);(case s1=>repeat (first | exact (Kd.R_reads' HO_7.out).2.2 | (with_reducible refine Kd.C_alloc ?_ _) | (with_reducible refine Kd.C_drewN ?_ _) | (with_reducible refine Kd.C_drew ?_)));(case s2=>exact (Kd.R_reads' HO_7.out).2.1);rintro e w' ⟨rfl,⟨nd,rfl⟩⟩;(try first | exact ⟨rfl,_,World.drewN_drewN _ _ _⟩ | exact ⟨rfl,_,Eq.trans (World.drewN_drewN _ _ _) (congrArg (World.drewN _) (Nat.add_assoc _ _ _))⟩)) | ((with_reducible refine gate_builtin (b:=.append) (xs:=#[.tmp 53,.tmp 55]) rfl ?_);at_builtin;refine Kd.R_append (Kd.int .i64) (w0:=w) w.heap.size rfl (.tmp 53) (.tmp 55) 37 2 (.int .i64 0) 8 rfl Tryd.underlying37 info2 rfl (by decide) (by omega) (.slice Ao24 x7_3.length co24) x7_3 ((rd_T77 l0_1 (ji15)).f1) [.int .i64 ((rd_T77 l0_1 (ji15)).f1)] (fun _=>True) (fun _=>False) rfl rfl ?aP (fun _ hk=>hk.elim) ?aF ?aO ?aB ?aS ?aL ?_;(case aP=>exact rfl);(case aB=>exact (z7_ HB.out GE511.out));(case aF=>exact (fun _ _=>trivial));(case aO=>exact (z1_ HO_7.out));(case aS=>exact (below_size (z7_ HB.out GE511.out)));(case aL=>have:=LMc22.out;omega);intro v520 w25 ho hb hg hat;rw [← Ny519.out] at ho;refine as3_ (blk_grown (g:=gb511) (o:=.cells #[.int .i64 a0_0,.slice (some ad517) l0_1.length c0_1] 24 (0,0)) (z3_ BK511.out) hg (Kd.R_ne HO_7.out BK511.out (by decide))) (hb) (ho) ?_;clear BK511 HB HO_7;intro BK511 HB HO521;clear ho hb hg hat))
              repeat (go_quiet (first | (go_at_call 55;(with_reducible refine (spec_l04Among.calls k3 _ _ x7_3 ((rd_T77 l0_1 (ji15)).f1) false _ ?s1 ?s2 A18.out).mono ?_);(case s1=>repeat (first | exact (Kd.R_reads' HO_7.out).2.2 | (with_reducible refine Kd.C_alloc ?_ _) | (with_reducible refine Kd.C_drewN ?_ _) | (with_reducible refine Kd.C_drew ?_)));(case s2=>exact (Kd.R_reads' HO_7.out).2.1);rintro e w' ⟨rfl,⟨nd,rfl⟩⟩;(try first | exact ⟨rfl,_,World.drewN_drewN _ _ _⟩ | exact ⟨rfl,_,Eq.trans (World.drewN_drewN _ _ _) (congrArg (World.drewN _) (Nat.add_assoc _ _ _))⟩)) | ((with_reducible refine gate_builtin (b:=.append) (xs:=#[.tmp 53,.tmp 55]) rfl ?_);at_builtin;refine Kd.R_append (Kd.int .i64) (w0:=w) w.heap.size rfl (.tmp 53) (.tmp 55) 37 2 (.int .i64 0) 8 rfl Tryd.underlying37 info2 rfl (by decide) (by omega) (.slice Ao24 x7_3.length co24) x7_3 ((rd_T77 l0_1 (ji15)).f1) [.int .i64 ((rd_T77 l0_1 (ji15)).f1)] (fun _=>True) (fun _=>False) rfl rfl ?aP (fun _ hk=>hk.elim) ?aF ?aO ?aB ?aS ?aL ?_;(case aP=>exact rfl);(case aB=>exact (z7_ HB.out GE511.out));(case aF=>exact (fun _ _=>trivial));(case aO=>exact (z1_ HO_7.out));(case aS=>exact (below_size (z7_ HB.out GE511.out)));(case aL=>have:=LMc22.out;omega);intro v520 w25 ho hb hg hat;rw [← Ny519.out] at ho;refine as3_ (blk_grown (g:=gb511) (o:=.cells #[.int .i64 a0_0,.slice (some ad517) l0_1.length c0_1] 24 (0,0)) (z3_ BK511.out) hg (Kd.R_ne HO_7.out BK511.out (by decide))) (hb) (ho) ?_;clear BK511 HB HO_7;intro BK511 HB HO521;clear ho hb hg hat));try go_wp2_with (first | (go_at_call 55;(with_reducible refine (spec_l04Among.calls k3 _ _ x7_3 ((rd_T77 l0_1 (ji15)).f1) false _ ?s1 ?s2 A18.out).mono ?_);(case s1=>repeat (first | exact (Kd.R_reads' HO_7.out).2.2 | (with_reducible refine Kd.C_alloc ?_ _) | (with_reducible refine Kd.C_drewN ?_ _) | (with_reducible refine Kd.C_drew ?_)));(case s2=>exact (Kd.R_reads' HO_7.out).2.1);rintro e w' ⟨rfl,⟨nd,rfl⟩⟩;(try first | exact ⟨rfl,_,World.drewN_drewN _ _ _⟩ | exact ⟨rfl,_,Eq.trans (World.drewN_drewN _ _ _) (congrArg (World.drewN _) (Nat.add_assoc _ _ _))⟩)) | ((with_reducible refine gate_builtin (b:=.append) (xs:=#[.tmp 53,.tmp 55]) rfl ?_);at_builtin;refine Kd.R_append (Kd.int .i64) (w0:=w) w.heap.size rfl (.tmp 53) (.tmp 55) 37 2 (.int .i64 0) 8 rfl Tryd.underlying37 info2 rfl (by decide) (by omega) (.slice Ao24 x7_3.length co24) x7_3 ((rd_T77 l0_1 (ji15)).f1) [.int .i64 ((rd_T77 l0_1 (ji15)).f1)] (fun _=>True) (fun _=>False) rfl rfl ?aP (fun _ hk=>hk.elim) ?aF ?aO ?aB ?aS ?aL ?_;(case aP=>exact rfl);(case aB=>exact (z7_ HB.out GE511.out));(case aF=>exact (fun _ _=>trivial));(case aO=>exact (z1_ HO_7.out));(case aS=>exact (below_size (z7_ HB.out GE511.out)));(case aL=>have:=LMc22.out;omega);intro v520 w25 ho hb hg hat;rw [← Ny519.out] at ho;refine as3_ (blk_grown (g:=gb511) (o:=.cells #[.int .i64 a0_0,.slice (some ad517) l0_1.length c0_1] 24 (0,0)) (z3_ BK511.out) hg (Kd.R_ne HO_7.out BK511.out (by decide))) (hb) (ho) ?_;clear BK511 HB HO_7;intro BK511 HB HO521;clear ho hb hg hat)))
              go_roundg k3
              case measure=>have:=HK1.out;have:=HJ4.out;have:=HK3.out;omega
              case rel=>exact ⟨(y519),(wrap64 (x8_3+1)),(z2_),H',⟨by have:=HK1.out;have:=HJ4.out;have:=HK3.out;omega⟩,⟨z1_ HO521.out⟩,⟨z3_ BK511.out⟩,⟨z7_ HB.out GE511.out⟩⟩
             ·rw [if_neg c22] at H
              exact absurd H (by simp)
           ·rw [if_neg c17] at H
            exact absurd H (by simp)
          ·rw [if_neg c16] at H
           exact absurd H (by simp)
        ·rw [if_neg c13] at H
         have c13b0:decide (x8_3<(l0_1.length:Int))=false:=decide_eq_false c13
         clear c13
         obtain rfl:=Option.some.inj H
         have ⟨hcz26_0,hcz26_1,hfz26_0,hfz26_1⟩:=cz2_ BK511.out
         go_wp2
         repeat (go_quiet (fail);try go_wp2)
         go_ret
         exact ⟨_,z10_,z1_ HO_7.out,z7_ HB.out GE511.out⟩


/-! ### spec_l01Min: function 91 -/
def spec_l01Min.f (a0:Int) (a1:Int):Option (Int):=if a0<a1 then (some a0) else (some a1)
set_option maxHeartbeats 8000000 in
set_option maxRecDepth 100000 in
theorem spec_l01Min.calls (a0:Int) (a1:Int) (r:Int) (w:World) (h:spec_l01Min.f a0 a1=some r) :
  Calls Tryd.prog 91 #[.int .i64 a0,.int .i64 a1] w fun e w'=>e = .returned (.int .i64 r)∧Drawn0 w w':=by
 have H:(if a0<a1 then (some a0) else (some a1))=some r:=h
 clear h
 by_cases c3:a0<a1
 ·rw [if_pos c3] at H
  have c3b0:decide (a0<a1)=true:=decide_eq_true c3
  clear c3
  obtain rfl:=Option.some.inj H
  go_enter Tryd.func91,Tryd.ntmps91
  go_wp2
  go_ret
  exact ⟨z2_,z6_⟩
 ·rw [if_neg c3] at H
  have c3b0:decide (a0<a1)=false:=decide_eq_false c3
  clear c3
  obtain rfl:=Option.some.inj H
  go_enter Tryd.func91,Tryd.ntmps91
  go_wp2
  go_ret
  exact ⟨z2_,z6_⟩


/-! ### spec_l04Owners: function 54 -/
def spec_l04Owners.f (k:Nat) (a0_0:Int) (l0_1:List (S77)) (a1:ByteArray) (a2:Int):Option (List Int):=(spec_l04Order.f k a0_0 l0_1 a1).bind fun t523=>((spec_l01Min.f a2 (t523.length:Int)).bind fun t526=>(if 0≤t526 then (if t526≤(t523.length:Int) then (some (t523.take (t526:Int).toNat)) else (none)) else (none)))
theorem spec_l04Owners.mono:∀ a0 a1 a2 a3 k,LeO (spec_l04Owners.f k a0 a1 a2 a3) (spec_l04Owners.f (k+1) a0 a1 a2 a3):=by
 intro a0 a1 a2 a3 k
 unfold spec_l04Owners.f
 repeat' first
   | (with_reducible exact spec_l04Order.mono _ _ _ _)
   | (with_reducible exact LeO.refl _)
   | (with_reducible exact LeO.none _)
   | (with_reducible refine LeO.ite ?_ ?_)
   | (with_reducible refine LeO.bind ?_ (fun _=>?_))
   | exact spec_l04Order.mono _ _ _ _
   | exact LeO.none _
   | refine LeO.ite ?_ ?_
   | refine LeO.bind ?_ (fun _=>?_)
set_option maxHeartbeats 8000000 in
set_option maxRecDepth 100000 in
theorem spec_l04Owners.calls (k:Nat) (a0_0:Int) (A0_1:Option Addr) (c0_1:Nat) (l0_1:List (S77)) (a1:ByteArray) (a2:Int) (r:List Int) (w:World) (hr0_1:Kd.C k77 w A0_1 l0_1.length l0_1) (hc0_1:l0_1.length≤c0_1) (h:spec_l04Owners.f k a0_0 l0_1 a1 a2=some r) :
  Calls Tryd.prog 54 #[.agg #[.int .i64 a0_0,.slice A0_1 l0_1.length c0_1],.string a1,.int .i64 a2] w fun e w'=>∃ v0_:Value,e = .returned (v0_)∧Kd.R (Kd.int .i64) 2 w' w.heap.size (fun _=>True) v0_ r∧Below w.heap.size w w':=by
 have hu24:=Tryd.underlying24
 have HR0_1:=Aside0.mk hr0_1
 have HC0_1:=Aside0.mk hc0_1
 clear hr0_1 hc0_1
 have HB:=Aside0.mk (Below.refl w.heap.size w)
 have H:((spec_l04Order.f k a0_0 l0_1 a1).bind fun t523=>((spec_l01Min.f a2 (t523.length:Int)).bind fun t526=>(if 0≤t526 then (if t526≤(t523.length:Int) then (some (t523.take (t526:Int).toNat)) else (none)) else (none))))=some r:=h
 clear h
 replace H:=Option.bind_eq_some_iff.mp H
 obtain ⟨t523,A40,H⟩:=H
 replace H:((spec_l01Min.f a2 (t523.length:Int)).bind fun t526=>(if 0≤t526 then (if t526≤(t523.length:Int) then (some (t523.take (t526:Int).toNat)) else (none)) else (none)))=some r:=H
 have A4:=Aside0.mk A40
 clear A40
 replace H:=Option.bind_eq_some_iff.mp H
 obtain ⟨t526,A50,H⟩:=H
 replace H:(if 0≤t526 then (if t526≤(t523.length:Int) then (some (t523.take (t526:Int).toNat)) else (none)) else (none))=some r:=H
 have A5:=Aside0.mk A50
 clear A50
 by_cases c6:0≤t526
 ·rw [if_pos c6] at H
  have c6b0:=eq_true c6
  have c6b1:decide (0≤t526)=true:=decide_eq_true c6
  clear c6
  by_cases c7:t526≤(t523.length:Int)
  ·rw [if_pos c7] at H
   have c7b0:=eq_true c7
   have c7b1:decide (t526≤(t523.length:Int))=true:=decide_eq_true c7
   clear c7
   obtain ⟨y527,hy527⟩:∃ y_:List Int,y_=(t523.take (t526:Int).toNat):=⟨_,rfl⟩
   replace H:(some y527)=some r:=by first | (rw [hy527];with_reducible exact H) | (have H2_:=(Option.bind_some _ _).symm.trans H;rw [hy527];with_reducible exact H2_) | (have H2_:=(Option.bind_some _ _).symm.trans H;with_reducible exact H2_) | with_reducible exact H | (rw [hy527];exact H) | exact H
   have Ny527:=Aside0.mk hy527
   clear hy527
   obtain rfl:=Option.some.inj H
   go_enter Tryd.func54,Tryd.ntmps54
   go_wp2_with (first | ((with_reducible refine gd_ 3 ?_);refine be_ 3 #[.int .i64 a0_0,.slice A0_1 l0_1.length c0_1] 24 ?_;intro gb522 hg w8 hbox hb;refine as4_ (below_step (z4_ HB.out) hb) (hbox) ((z8_ HB.out:w.heap.size≤gb522)) ((z8_ HB.out:w.heap.size≤gb522)) ?_;clear HB;intro HB BK522 GW522 GE522;clear hb hbox hg;have ⟨hcz9_0,hcz9_1,hfz9_0,hfz9_1⟩:=cz2_ BK522.out) | ((with_reducible refine gc_ 90 ?_);refine gl_ (some 10) Tryd.func90 #[.agg #[.int .i64 a0_0,.slice A0_1 l0_1.length c0_1],.string a1] ?_;(with_reducible refine (spec_l04Order.calls k a0_0 _ _ l0_1 a1 t523 _ ?s1 ?s2 A4.out).mono ?_);(case s1=>repeat (first | exact (Kd.C_below HR0_1.out HB.out) | (with_reducible refine Kd.C_alloc ?_ _) | (with_reducible refine Kd.C_drewN ?_ _) | (with_reducible refine Kd.C_drew ?_)));(case s2=>exact HC0_1.out);rintro e w10 ⟨v524,rfl,ho0,hb⟩;refine ⟨_,rfl,?_⟩;refine as3_ (Kd.R_lower ho0 (below_size (z7_ HB.out GE522.out))) (blkB_ BK522.out hb) (below_step (z7_ HB.out GE522.out) hb) ?_;clear BK522 HB;intro HO525 BK522 HB;(try clear hb);(try clear ho0);obtain ⟨Ao11,co11,eo11⟩:=Kd.R_slice HO525.out;subst eo11) | ((with_reducible refine gc_ 91 ?_);refine gl_ (some 15) Tryd.func91 #[.int .i64 a2,.int .i64 (t523.length:Int)] ?_;(with_reducible refine (spec_l01Min.calls a2 (t523.length:Int) t526 _ A5.out).mono ?_);rintro e w' ⟨rfl,⟨nd,rfl⟩⟩;refine ⟨_,rfl,?_⟩;have q12:(t526:Int)≤((t523.length:Int):Int):=of_decide_eq_true (z0_);obtain ⟨i012,hi012,_,hsz12,_⟩:=info_parts info2;have hcut12:=cut_to (P:=Tryd.prog) 37 2 .i64 Tryd.underlying37 hi012 Ao11 t523.length co11 t526 (of_decide_eq_true (z0_)) q12 (Kd.R_reads' HO525.out).2.1;have hr12:=Kd.R_take (m:=(t526:Int).toNat) HO525.out (by omega);have hy12:y527.length=(t526:Int).toNat:=(by rw [Ny527.out,List.length_take];omega);rw [← Ny527.out] at hr12;rw [← hy12] at hr12 hcut12;clear hy12 hi012 hsz12 HO525;have HO529:=Aside0.mk hr12;clear hr12;replace q12:=eq_true q12))
   go_ret
   exact ⟨_,z10_,z1_ HO529.out,z7_ HB.out GE522.out⟩
  ·rw [if_neg c7] at H
   exact absurd H (by simp)
 ·rw [if_neg c6] at H
  exact absurd H (by simp)


/-! ### spec_Newcomers: function 20 -/
mutual
def spec_Newcomers.j0:Nat→ByteArray→Int→List Int→Bool→Int→List (S77)→Int→List (S77)→Option (List Int)
 | 0,_,_,_,_,_,_,_,_=>none
 | k+1,x2,x3,x9,x31,x531000,x531001,x532000,x532001=>if x31=true then (some x9) else ((spec_l04Owners.f k x531000 x531001 x2 x3).bind fun t539=>((spec_l04Owners.f k x532000 x532001 x2 x3).bind fun t542=>(spec_Newcomers.l0 k x9 t539 t542 0)))
def spec_Newcomers.l0:Nat→List Int→List Int→List Int→Int→Option (List Int)
 | 0,_,_,_,_=>none
 | k+1,x9,x10,x11,x12=>if x12<(x11.length:Int) then (if 0≤x12 then ((spec_l04Among.f k x10 (rd x11 x12)).bind fun t546=>(if t546=true then (spec_Newcomers.l0 k x9 x10 x11 (wrap64 (x12+1))) else (if x9.length<17592186044416 then (spec_Newcomers.l0 k (x9 ++ [rd x11 x12]) x10 x11 (wrap64 (x12+1))) else (none)))) else (none)) else (some x9)
end
def spec_Newcomers.f (k:Nat) (a0_0:Int) (l0_1:List (S77)) (a1_0:Int) (l1_1:List (S77)) (a2:ByteArray) (a3:Int):Option (List Int):=(some (([]:List Int):List Int)).bind fun y532=>((spec_RingRight.f k a0_0 l0_1).bind fun t535=>(if t535=true then ((spec_RingRight.f k a1_0 l1_1).bind fun t536=>(if t536=true then ((spec_NameRight.f k a2).bind fun t537=>(if t537=true then ((spec_l02Node.f a3).bind fun t538=>(spec_Newcomers.j0 k a2 a3 y532 (!t538) a0_0 l0_1 a1_0 l1_1)) else (spec_Newcomers.j0 k a2 a3 y532 true a0_0 l0_1 a1_0 l1_1))) else (spec_Newcomers.j0 k a2 a3 y532 true a0_0 l0_1 a1_0 l1_1))) else (spec_Newcomers.j0 k a2 a3 y532 true a0_0 l0_1 a1_0 l1_1)))
theorem spec_Newcomers.mono_l:∀ k,(∀ y0 y1 y2 y3 y4 y5 y6 y7,LeO (spec_Newcomers.j0 k y0 y1 y2 y3 y4 y5 y6 y7) (spec_Newcomers.j0 (k+1) y0 y1 y2 y3 y4 y5 y6 y7))∧(∀ y0 y1 y2 y3,LeO (spec_Newcomers.l0 k y0 y1 y2 y3) (spec_Newcomers.l0 (k+1) y0 y1 y2 y3))
 | 0=>⟨fun _ _ _ _ _ _ _ _ r h=>by simp [spec_Newcomers.j0] at h,fun _ _ _ _ r h=>by simp [spec_Newcomers.l0] at h⟩
 | k+1=>by
  obtain ⟨ih0,ih1⟩:=spec_Newcomers.mono_l k
  refine ⟨?_,?_⟩
  ·intro y0 y1 y2 y3 y4 y5 y6 y7
   unfold spec_Newcomers.j0
   repeat' first
   | (with_reducible exact ih0 _ _ _ _ _ _ _ _)
   | (with_reducible exact ih1 _ _ _ _)
   | (with_reducible exact spec_NameRight.mono _ _)
   | (with_reducible exact spec_RingRight.mono _ _ _)
   | (with_reducible exact spec_l04Among.mono _ _ _)
   | (with_reducible exact spec_l04Owners.mono _ _ _ _ _)
   | (with_reducible exact LeO.refl _)
   | (with_reducible exact LeO.none _)
   | (with_reducible refine LeO.ite ?_ ?_)
   | (with_reducible refine LeO.bind ?_ (fun _=>?_))
   | exact ih0 _ _ _ _ _ _ _ _
   | exact ih1 _ _ _ _
   | exact spec_NameRight.mono _ _
   | exact spec_RingRight.mono _ _ _
   | exact spec_l04Among.mono _ _ _
   | exact spec_l04Owners.mono _ _ _ _ _
   | exact LeO.none _
   | refine LeO.ite ?_ ?_
   | refine LeO.bind ?_ (fun _=>?_)
  ·intro y0 y1 y2 y3
   unfold spec_Newcomers.l0
   repeat' first
   | (with_reducible exact ih0 _ _ _ _ _ _ _ _)
   | (with_reducible exact ih1 _ _ _ _)
   | (with_reducible exact spec_NameRight.mono _ _)
   | (with_reducible exact spec_RingRight.mono _ _ _)
   | (with_reducible exact spec_l04Among.mono _ _ _)
   | (with_reducible exact spec_l04Owners.mono _ _ _ _ _)
   | (with_reducible exact LeO.refl _)
   | (with_reducible exact LeO.none _)
   | (with_reducible refine LeO.ite ?_ ?_)
   | (with_reducible refine LeO.bind ?_ (fun _=>?_))
   | exact ih0 _ _ _ _ _ _ _ _
   | exact ih1 _ _ _ _
   | exact spec_NameRight.mono _ _
   | exact spec_RingRight.mono _ _ _
   | exact spec_l04Among.mono _ _ _
   | exact spec_l04Owners.mono _ _ _ _ _
   | exact LeO.none _
   | refine LeO.ite ?_ ?_
   | refine LeO.bind ?_ (fun _=>?_)
theorem spec_Newcomers.mono:∀ a0 a1 a2 a3 a4 a5 k,LeO (spec_Newcomers.f k a0 a1 a2 a3 a4 a5) (spec_Newcomers.f (k+1) a0 a1 a2 a3 a4 a5):=by
 intro a0 a1 a2 a3 a4 a5 k
 obtain ⟨ih0,ih1⟩:=spec_Newcomers.mono_l k
 unfold spec_Newcomers.f
 repeat' first
   | (with_reducible exact ih0 _ _ _ _ _ _ _ _)
   | (with_reducible exact ih1 _ _ _ _)
   | (with_reducible exact spec_NameRight.mono _ _)
   | (with_reducible exact spec_RingRight.mono _ _ _)
   | (with_reducible exact spec_l04Among.mono _ _ _)
   | (with_reducible exact spec_l04Owners.mono _ _ _ _ _)
   | (with_reducible exact LeO.refl _)
   | (with_reducible exact LeO.none _)
   | (with_reducible refine LeO.ite ?_ ?_)
   | (with_reducible refine LeO.bind ?_ (fun _=>?_))
   | exact ih0 _ _ _ _ _ _ _ _
   | exact ih1 _ _ _ _
   | exact spec_NameRight.mono _ _
   | exact spec_RingRight.mono _ _ _
   | exact spec_l04Among.mono _ _ _
   | exact spec_l04Owners.mono _ _ _ _ _
   | exact LeO.none _
   | refine LeO.ite ?_ ?_
   | refine LeO.bind ?_ (fun _=>?_)
def spec_Newcomers.T4:Bool × List (List Nat × List Nat):=(true,[([],[]),([],[]),([],[]),([0,1,2],[0,1,2]),([],[]),([],[]),([],[]),([4,5,6,3],[4,5,6]),([3,7,0,1,2,3],[3]),([7,8,0,1,2,3,4,5,6,7,8],[7])])
def spec_Newcomers.B4:List Nat:=[0,0,0,7,0,0,0,127,255,511]
theorem spec_Newcomers.tab4:rtab .any (opsOf Tryd.f20 4)=spec_Newcomers.T4:=by kernel_rfl
theorem spec_Newcomers.bits4:waitsOk spec_Newcomers.T4.2 spec_Newcomers.B4=true:=by kernel_rfl
set_option maxHeartbeats 8000000 in
set_option maxRecDepth 100000 in
theorem spec_Newcomers.calls (k:Nat) (a0_0:Int) (A0_1:Option Addr) (c0_1:Nat) (l0_1:List (S77)) (a1_0:Int) (A1_1:Option Addr) (c1_1:Nat) (l1_1:List (S77)) (a2:ByteArray) (a3:Int) (r:List Int) (w:World) (hr0_1:Kd.C k77 w A0_1 l0_1.length l0_1) (hc0_1:l0_1.length≤c0_1) (hr1_1:Kd.C k77 w A1_1 l1_1.length l1_1) (hc1_1:l1_1.length≤c1_1) (h:spec_Newcomers.f k a0_0 l0_1 a1_0 l1_1 a2 a3=some r) :
  Calls Tryd.prog 20 #[.agg #[.int .i64 a0_0,.slice A0_1 l0_1.length c0_1],.agg #[.int .i64 a1_0,.slice A1_1 l1_1.length c1_1],.string a2,.int .i64 a3] w fun e w'=>∃ v0_:Value,e = .returned (v0_)∧Kd.R (Kd.int .i64) 2 w' w.heap.size (fun _=>True) v0_ r∧Below w.heap.size w w':=by
 have hu24:=Tryd.underlying24
 have HR0_1:=Aside0.mk hr0_1
 have HC0_1:=Aside0.mk hc0_1
 clear hr0_1 hc0_1
 have HR1_1:=Aside0.mk hr1_1
 have HC1_1:=Aside0.mk hc1_1
 clear hr1_1 hc1_1
 have HB:=Aside0.mk (Below.refl w.heap.size w)
 have H:((some (([]:List Int):List Int)).bind fun y532=>((spec_RingRight.f k a0_0 l0_1).bind fun t535=>(if t535=true then ((spec_RingRight.f k a1_0 l1_1).bind fun t536=>(if t536=true then ((spec_NameRight.f k a2).bind fun t537=>(if t537=true then ((spec_l02Node.f a3).bind fun t538=>(spec_Newcomers.j0 k a2 a3 y532 (!t538) a0_0 l0_1 a1_0 l1_1)) else (spec_Newcomers.j0 k a2 a3 y532 true a0_0 l0_1 a1_0 l1_1))) else (spec_Newcomers.j0 k a2 a3 y532 true a0_0 l0_1 a1_0 l1_1))) else (spec_Newcomers.j0 k a2 a3 y532 true a0_0 l0_1 a1_0 l1_1))))=some r:=h
 clear h
 obtain ⟨y532,hy532⟩:∃ y_:List Int,y_=(([]:List Int)):=⟨_,rfl⟩
 replace H:((spec_RingRight.f k a0_0 l0_1).bind fun t535=>(if t535=true then ((spec_RingRight.f k a1_0 l1_1).bind fun t536=>(if t536=true then ((spec_NameRight.f k a2).bind fun t537=>(if t537=true then ((spec_l02Node.f a3).bind fun t538=>(spec_Newcomers.j0 k a2 a3 y532 (!t538) a0_0 l0_1 a1_0 l1_1)) else (spec_Newcomers.j0 k a2 a3 y532 true a0_0 l0_1 a1_0 l1_1))) else (spec_Newcomers.j0 k a2 a3 y532 true a0_0 l0_1 a1_0 l1_1))) else (spec_Newcomers.j0 k a2 a3 y532 true a0_0 l0_1 a1_0 l1_1)))=some r:=by first | (rw [hy532];with_reducible exact H) | (have H2_:=(Option.bind_some _ _).symm.trans H;rw [hy532];with_reducible exact H2_) | (have H2_:=(Option.bind_some _ _).symm.trans H;with_reducible exact H2_) | with_reducible exact H | (rw [hy532];exact H) | exact H
 have Ny532:=Aside0.mk hy532
 clear hy532
 have HC5:=Aside0.mk H
 clear H
 go_enter Tryd.func20,Tryd.ntmps20
 go_upto_region 2 with (first | ((with_reducible refine gd_ 4 ?_);refine be_ 4 #[.int .i64 a0_0,.slice A0_1 l0_1.length c0_1] 24 ?_;intro gb530 hg w6 hbox hb;refine as4_ (below_step (z4_ HB.out) hb) (hbox) ((z8_ HB.out:w.heap.size≤gb530)) ((z8_ HB.out:w.heap.size≤gb530)) ?_;clear HB;intro HB BK530 GW530 GE530;clear hb hbox hg) | ((with_reducible refine gd_ 5 ?_);refine be_ 5 #[.int .i64 a1_0,.slice A1_1 l1_1.length c1_1] 24 ?_;intro gb531 hg w7 hbox hb;refine as7_ (blkB_ BK530.out hb) (below_step (z7_ HB.out GE530.out) hb) (hbox) ((z11_ HB.out GE530.out:w.heap.size≤gb531)) ((z11_ HB.out GE530.out:w.heap.size≤gb531)) (neL_ BK530.out hg) (neG_ BK530.out hg) ?_;clear BK530 HB;intro BK530 HB BK531 GW531 GE531 NB530_531 NB531_530;clear hb hbox hg) | ((with_reducible refine gd_ 13 ?_);refine Kd.R_lit (Kd.int .i64) _ 2 ?hg (N:=13) ?hd (xs:=([]:List Int)) (inner:=[]) (ok:=fun _=>True) (okp:=fun _=>True) ?hr ?hp (fun _ hk=>hk) trivial (Below.refl _ _) (Nat.le_refl _) (by simp) ?_;(case hd=>rfl);(case hg=>rfl);(case hr=>first | (go_simp;done) | (go_simp;rfl));(case hp=>exact (Reps.none _ _));intro v533 w8 ho9 hb hg_ hnew_;clear hg_ hnew_;(first | rw [← Ny532.out] at ho9 | (simp only [Int.reduceToNat] at ho9;rw [← Ny532.out] at ho9));refine as4_ (Kd.R_lower ho9 (below_size (z5_ HB.out GE530.out GE531.out))) (blkB_ BK530.out hb) (blkB_ BK531.out hb) (below_step (z5_ HB.out GE530.out GE531.out) hb) ?_;clear BK530 BK531 HB;intro HO534 BK530 BK531 HB;clear hb ho9))
 (try simp only [Act.put,sa_,s0_,ss_])
 go_cut [31] (fun v31 wc=>∃ (kq:Nat) (x31_4:Bool),v31 = .bool x31_4∧Aside0 (spec_Newcomers.j0 kq a2 a3 y532 x31_4 a0_0 l0_1 a1_0 l1_1=some r)∧Aside0 (kq≤k)∧Aside0 (Kd.R (Kd.int .i64) 2 wc w.heap.size (fun _=>True) v533 y532)∧Aside0 (wc.heap[gb530]? = some (.cells #[.int .i64 a0_0,(.slice A0_1 l0_1.length c0_1)] 24 (0,0)))∧Aside0 (wc.heap[gb531]? = some (.cells #[.int .i64 a1_0,(.slice A1_1 l1_1.length c1_1)] 24 (0,0)))∧Aside0 (Below w.heap.size w wc))
 case first =>
  have H:=HC5.out
  clear HC5
  replace H:=Option.bind_eq_some_iff.mp H
  obtain ⟨t535,A100,H⟩:=H
  replace H:(if t535=true then ((spec_RingRight.f k a1_0 l1_1).bind fun t536=>(if t536=true then ((spec_NameRight.f k a2).bind fun t537=>(if t537=true then ((spec_l02Node.f a3).bind fun t538=>(spec_Newcomers.j0 k a2 a3 y532 (!t538) a0_0 l0_1 a1_0 l1_1)) else (spec_Newcomers.j0 k a2 a3 y532 true a0_0 l0_1 a1_0 l1_1))) else (spec_Newcomers.j0 k a2 a3 y532 true a0_0 l0_1 a1_0 l1_1))) else (spec_Newcomers.j0 k a2 a3 y532 true a0_0 l0_1 a1_0 l1_1))=some r:=H
  have A10:=Aside0.mk A100
  clear A100
  by_cases c11:t535=true
  ·subst c11
   have H1:((spec_RingRight.f k a1_0 l1_1).bind fun t536=>(if t536=true then ((spec_NameRight.f k a2).bind fun t537=>(if t537=true then ((spec_l02Node.f a3).bind fun t538=>(spec_Newcomers.j0 k a2 a3 y532 (!t538) a0_0 l0_1 a1_0 l1_1)) else (spec_Newcomers.j0 k a2 a3 y532 true a0_0 l0_1 a1_0 l1_1))) else (spec_Newcomers.j0 k a2 a3 y532 true a0_0 l0_1 a1_0 l1_1)))=some r:=by rw [if_pos rfl] at H;exact H
   clear H
   have H:=H1
   clear H1
   replace H:=Option.bind_eq_some_iff.mp H
   obtain ⟨t536,A120,H⟩:=H
   replace H:(if t536=true then ((spec_NameRight.f k a2).bind fun t537=>(if t537=true then ((spec_l02Node.f a3).bind fun t538=>(spec_Newcomers.j0 k a2 a3 y532 (!t538) a0_0 l0_1 a1_0 l1_1)) else (spec_Newcomers.j0 k a2 a3 y532 true a0_0 l0_1 a1_0 l1_1))) else (spec_Newcomers.j0 k a2 a3 y532 true a0_0 l0_1 a1_0 l1_1))=some r:=H
   have A12:=Aside0.mk A120
   clear A120
   by_cases c13:t536=true
   ·subst c13
    have H1:((spec_NameRight.f k a2).bind fun t537=>(if t537=true then ((spec_l02Node.f a3).bind fun t538=>(spec_Newcomers.j0 k a2 a3 y532 (!t538) a0_0 l0_1 a1_0 l1_1)) else (spec_Newcomers.j0 k a2 a3 y532 true a0_0 l0_1 a1_0 l1_1)))=some r:=by rw [if_pos rfl] at H;exact H
    clear H
    have H:=H1
    clear H1
    replace H:=Option.bind_eq_some_iff.mp H
    obtain ⟨t537,A140,H⟩:=H
    replace H:(if t537=true then ((spec_l02Node.f a3).bind fun t538=>(spec_Newcomers.j0 k a2 a3 y532 (!t538) a0_0 l0_1 a1_0 l1_1)) else (spec_Newcomers.j0 k a2 a3 y532 true a0_0 l0_1 a1_0 l1_1))=some r:=H
    have A14:=Aside0.mk A140
    clear A140
    by_cases c15:t537=true
    ·subst c15
     have H1:((spec_l02Node.f a3).bind fun t538=>(spec_Newcomers.j0 k a2 a3 y532 (!t538) a0_0 l0_1 a1_0 l1_1))=some r:=by rw [if_pos rfl] at H;exact H
     clear H
     have H:=H1
     clear H1
     replace H:=Option.bind_eq_some_iff.mp H
     obtain ⟨t538,A160,H⟩:=H
     replace H:(spec_Newcomers.j0 k a2 a3 y532 (!t538) a0_0 l0_1 a1_0 l1_1)=some r:=H
     have A16:=Aside0.mk A160
     clear A160
     have H':=Aside0.mk H
     clear H
     have hnb17:=NB530_531.out
     have hnc17:=NB531_530.out
     have ⟨hcz18_0,hcz18_1,hfz18_0,hfz18_1⟩:=cz2_ BK530.out
     go_wp2_with (first | ((with_reducible refine gc_ 51 ?_);refine gl_ (some 15) Tryd.func51 #[.agg #[.int .i64 a0_0,.slice A0_1 l0_1.length c0_1]] ?_;(with_reducible refine (spec_RingRight.calls k a0_0 _ _ l0_1 true _ ?s1 ?s2 A10.out).mono ?_);(case s1=>repeat (first | exact (Kd.C_below HR0_1.out HB.out) | (with_reducible refine Kd.C_alloc ?_ _) | (with_reducible refine Kd.C_drewN ?_ _) | (with_reducible refine Kd.C_drew ?_)));(case s2=>exact HC0_1.out);rintro e w19 ⟨rfl,hb⟩;refine ⟨_,rfl,?_⟩;refine as4_ (Kd.R_below (z1_ HO534.out) hb) (blkB_ BK530.out hb) (blkB_ BK531.out hb) (below_step (z5_ HB.out GE530.out GE531.out) hb) ?_;clear HO534 BK530 BK531 HB;intro HO534 BK530 BK531 HB;(try clear hb);have ⟨hcz20_0,hcz20_1,hfz20_0,hfz20_1⟩:=cz2_ BK531.out) | (go_at_call 51;(with_reducible refine (spec_RingRight.calls k a1_0 _ _ l1_1 true _ ?s1 ?s2 A12.out).mono ?_);(case s1=>repeat (first | exact (Kd.C_below HR1_1.out HB.out) | (with_reducible refine Kd.C_alloc ?_ _) | (with_reducible refine Kd.C_drewN ?_ _) | (with_reducible refine Kd.C_drew ?_)));(case s2=>exact HC1_1.out);rintro e w21 ⟨rfl,hb⟩;refine as4_ (Kd.R_below (z1_ HO534.out) hb) (blkB_ BK530.out hb) (blkB_ BK531.out hb) (below_step (z5_ HB.out GE530.out GE531.out) hb) ?_;clear HO534 BK530 BK531 HB;intro HO534 BK530 BK531 HB;(try clear hb)) | (go_at_call 21;(with_reducible refine (spec_NameRight.calls k a2 true _ A14.out).mono ?_);rintro e w' ⟨rfl,⟨nd,rfl⟩⟩) | (go_at_call 38;(with_reducible refine (spec_l02Node.calls a3 t538 _ A16.out).mono ?_);rintro e w' ⟨rfl,⟨nd,rfl⟩⟩))
     go_meet
     case rel=>exact ⟨_,(!t538),(z2_),H',⟨by first | omega | exact Nat.le_refl _⟩,⟨z1_ HO534.out⟩,⟨z3_ BK530.out⟩,⟨z3_ BK531.out⟩,⟨z5_ HB.out GE530.out GE531.out⟩⟩
    ·replace c15:=Bool.eq_false_iff.mpr c15
     subst c15
     have H1:(spec_Newcomers.j0 k a2 a3 y532 true a0_0 l0_1 a1_0 l1_1)=some r:=by rw [if_neg (show ¬ (false=true) by decide)] at H;exact H
     clear H
     have H:=H1
     clear H1
     have H':=Aside0.mk H
     clear H
     have hnb22:=NB530_531.out
     have hnc22:=NB531_530.out
     have ⟨hcz23_0,hcz23_1,hfz23_0,hfz23_1⟩:=cz2_ BK530.out
     go_wp2_with (first | ((with_reducible refine gc_ 51 ?_);refine gl_ (some 15) Tryd.func51 #[.agg #[.int .i64 a0_0,.slice A0_1 l0_1.length c0_1]] ?_;(with_reducible refine (spec_RingRight.calls k a0_0 _ _ l0_1 true _ ?s1 ?s2 A10.out).mono ?_);(case s1=>repeat (first | exact (Kd.C_below HR0_1.out HB.out) | (with_reducible refine Kd.C_alloc ?_ _) | (with_reducible refine Kd.C_drewN ?_ _) | (with_reducible refine Kd.C_drew ?_)));(case s2=>exact HC0_1.out);rintro e w24 ⟨rfl,hb⟩;refine ⟨_,rfl,?_⟩;refine as4_ (Kd.R_below (z1_ HO534.out) hb) (blkB_ BK530.out hb) (blkB_ BK531.out hb) (below_step (z5_ HB.out GE530.out GE531.out) hb) ?_;clear HO534 BK530 BK531 HB;intro HO534 BK530 BK531 HB;(try clear hb);have ⟨hcz25_0,hcz25_1,hfz25_0,hfz25_1⟩:=cz2_ BK531.out) | (go_at_call 51;(with_reducible refine (spec_RingRight.calls k a1_0 _ _ l1_1 true _ ?s1 ?s2 A12.out).mono ?_);(case s1=>repeat (first | exact (Kd.C_below HR1_1.out HB.out) | (with_reducible refine Kd.C_alloc ?_ _) | (with_reducible refine Kd.C_drewN ?_ _) | (with_reducible refine Kd.C_drew ?_)));(case s2=>exact HC1_1.out);rintro e w26 ⟨rfl,hb⟩;refine as4_ (Kd.R_below (z1_ HO534.out) hb) (blkB_ BK530.out hb) (blkB_ BK531.out hb) (below_step (z5_ HB.out GE530.out GE531.out) hb) ?_;clear HO534 BK530 BK531 HB;intro HO534 BK530 BK531 HB;(try clear hb)) | (go_at_call 21;(with_reducible refine (spec_NameRight.calls k a2 false _ A14.out).mono ?_);rintro e w' ⟨rfl,⟨nd,rfl⟩⟩))
     go_meet
     case rel=>exact ⟨_,(true),(z2_),H',⟨by first | omega | exact Nat.le_refl _⟩,⟨z1_ HO534.out⟩,⟨z3_ BK530.out⟩,⟨z3_ BK531.out⟩,⟨z5_ HB.out GE530.out GE531.out⟩⟩
   ·replace c13:=Bool.eq_false_iff.mpr c13
    subst c13
    have H1:(spec_Newcomers.j0 k a2 a3 y532 true a0_0 l0_1 a1_0 l1_1)=some r:=by rw [if_neg (show ¬ (false=true) by decide)] at H;exact H
    clear H
    have H:=H1
    clear H1
    have H':=Aside0.mk H
    clear H
    have hnb27:=NB530_531.out
    have hnc27:=NB531_530.out
    have ⟨hcz28_0,hcz28_1,hfz28_0,hfz28_1⟩:=cz2_ BK530.out
    go_wp2_with (first | ((with_reducible refine gc_ 51 ?_);refine gl_ (some 15) Tryd.func51 #[.agg #[.int .i64 a0_0,.slice A0_1 l0_1.length c0_1]] ?_;(with_reducible refine (spec_RingRight.calls k a0_0 _ _ l0_1 true _ ?s1 ?s2 A10.out).mono ?_);(case s1=>repeat (first | exact (Kd.C_below HR0_1.out HB.out) | (with_reducible refine Kd.C_alloc ?_ _) | (with_reducible refine Kd.C_drewN ?_ _) | (with_reducible refine Kd.C_drew ?_)));(case s2=>exact HC0_1.out);rintro e w29 ⟨rfl,hb⟩;refine ⟨_,rfl,?_⟩;refine as4_ (Kd.R_below (z1_ HO534.out) hb) (blkB_ BK530.out hb) (blkB_ BK531.out hb) (below_step (z5_ HB.out GE530.out GE531.out) hb) ?_;clear HO534 BK530 BK531 HB;intro HO534 BK530 BK531 HB;(try clear hb);have ⟨hcz30_0,hcz30_1,hfz30_0,hfz30_1⟩:=cz2_ BK531.out) | (go_at_call 51;(with_reducible refine (spec_RingRight.calls k a1_0 _ _ l1_1 false _ ?s1 ?s2 A12.out).mono ?_);(case s1=>repeat (first | exact (Kd.C_below HR1_1.out HB.out) | (with_reducible refine Kd.C_alloc ?_ _) | (with_reducible refine Kd.C_drewN ?_ _) | (with_reducible refine Kd.C_drew ?_)));(case s2=>exact HC1_1.out);rintro e w31 ⟨rfl,hb⟩;refine as4_ (Kd.R_below (z1_ HO534.out) hb) (blkB_ BK530.out hb) (blkB_ BK531.out hb) (below_step (z5_ HB.out GE530.out GE531.out) hb) ?_;clear HO534 BK530 BK531 HB;intro HO534 BK530 BK531 HB;(try clear hb)))
    go_meet
    case rel=>exact ⟨_,(true),(z2_),H',⟨by first | omega | exact Nat.le_refl _⟩,⟨z1_ HO534.out⟩,⟨z3_ BK530.out⟩,⟨z3_ BK531.out⟩,⟨z5_ HB.out GE530.out GE531.out⟩⟩
  ·replace c11:=Bool.eq_false_iff.mpr c11
   subst c11
   have H1:(spec_Newcomers.j0 k a2 a3 y532 true a0_0 l0_1 a1_0 l1_1)=some r:=by rw [if_neg (show ¬ (false=true) by decide)] at H;exact H
   clear H
   have H:=H1
   clear H1
   have H':=Aside0.mk H
   clear H
   have hnb32:=NB530_531.out
   have hnc32:=NB531_530.out
   have ⟨hcz33_0,hcz33_1,hfz33_0,hfz33_1⟩:=cz2_ BK530.out
   go_wp2_with (first | ((with_reducible refine gc_ 51 ?_);refine gl_ (some 15) Tryd.func51 #[.agg #[.int .i64 a0_0,.slice A0_1 l0_1.length c0_1]] ?_;(with_reducible refine (spec_RingRight.calls k a0_0 _ _ l0_1 false _ ?s1 ?s2 A10.out).mono ?_);(case s1=>repeat (first | exact (Kd.C_below HR0_1.out HB.out) | (with_reducible refine Kd.C_alloc ?_ _) | (with_reducible refine Kd.C_drewN ?_ _) | (with_reducible refine Kd.C_drew ?_)));(case s2=>exact HC0_1.out);rintro e w34 ⟨rfl,hb⟩;refine ⟨_,rfl,?_⟩;refine as4_ (Kd.R_below (z1_ HO534.out) hb) (blkB_ BK530.out hb) (blkB_ BK531.out hb) (below_step (z5_ HB.out GE530.out GE531.out) hb) ?_;clear HO534 BK530 BK531 HB;intro HO534 BK530 BK531 HB;(try clear hb)))
   go_meet
   case rel=>exact ⟨_,(true),(z2_),H',⟨by first | omega | exact Nat.le_refl _⟩,⟨z1_ HO534.out⟩,⟨z3_ BK530.out⟩,⟨z3_ BK531.out⟩,⟨z5_ HB.out GE530.out GE531.out⟩⟩
 case rest =>
  clear HC5
  try clear c1
  try clear c2
  try clear p2
  try clear c3
  try clear c5
  try clear c11
  try clear c13
  try clear c15
  try clear c17
  try clear c20
  try clear c22
  try clear c27
  try clear c32
  try clear hcz18_0
  try clear hcz18_1
  try clear hcz20_0
  try clear hcz20_1
  try clear hcz23_0
  try clear hcz23_1
  try clear hcz25_0
  try clear hcz25_1
  try clear hcz28_0
  try clear hcz28_1
  try clear hcz30_0
  try clear hcz30_1
  try clear hcz33_0
  try clear hcz33_1
  try clear hfz18_0
  try clear hfz18_1
  try clear hfz20_0
  try clear hfz20_1
  try clear hfz23_0
  try clear hfz23_1
  try clear hfz25_0
  try clear hfz25_1
  try clear hfz28_0
  try clear hfz28_1
  try clear hfz30_0
  try clear hfz30_1
  try clear hfz33_0
  try clear hfz33_1
  obtain ⟨kq,x31_4,rfl,HA,HJ4,HO_9,BK530,BK531,HB⟩:=hcut
  cases kq with
  | zero=>exact absurd HA.out (by simp [spec_Newcomers.j0])
  | succ kj4 =>
   have H:=HA.out
   clear HA
   simp only [spec_Newcomers.j0] at H
   by_cases c35:x31_4=true
   ·subst c35
    have H1:(some y532)=some r:=by rw [if_pos rfl] at H;exact H
    clear H
    have H:=H1
    clear H1
    obtain rfl:=Option.some.inj H
    go_wp2
    go_ret
    exact ⟨_,z10_,z1_ HO_9.out,z5_ HB.out GE530.out GE531.out⟩
   ·replace c35:=Bool.eq_false_iff.mpr c35
    subst c35
    have H1:((spec_l04Owners.f kj4 a0_0 l0_1 a2 a3).bind fun t539=>((spec_l04Owners.f kj4 a1_0 l1_1 a2 a3).bind fun t542=>(spec_Newcomers.l0 kj4 y532 t539 t542 0)))=some r:=by rw [if_neg (show ¬ (false=true) by decide)] at H;exact H
    clear H
    have H:=H1
    clear H1
    replace H:=Option.bind_eq_some_iff.mp H
    obtain ⟨t539,A360,H⟩:=H
    replace H:((spec_l04Owners.f kj4 a1_0 l1_1 a2 a3).bind fun t542=>(spec_Newcomers.l0 kj4 y532 t539 t542 0))=some r:=H
    have A36:=Aside0.mk A360
    clear A360
    replace H:=Option.bind_eq_some_iff.mp H
    obtain ⟨t542,A370,H⟩:=H
    replace H:(spec_Newcomers.l0 kj4 y532 t539 t542 0)=some r:=H
    have A37:=Aside0.mk A370
    clear A370
    have H':=Aside0.mk H
    clear H
    try go_wp2
    refine as4_ (Kd.R_drew HO_9.out) (blk_drew BK530.out) (blk_drew BK531.out) (below_drew1 HB.out) ?_
    clear HO_9 BK530 BK531 HB
    intro HO_9 BK530 BK531 HB
    refine start_ (n:=10) (S:=fun w'=>w'.cell? ⟨gb530,0,none⟩=some (.int .i64 a0_0)∧w'.cell? ⟨gb530,1,none⟩=some (.slice A0_1 l0_1.length c0_1)∧w'.cell? ⟨gb531,0,none⟩=some (.int .i64 a1_0)∧w'.cell? ⟨gb531,1,none⟩=some (.slice A1_1 l1_1.length c1_1)) (ds:=[]) #[O,O,O,O,O,O,O,O,O,O] (by kernel_rfl) rfl rfl (cj2_ BK530.out (cc2_ BK531.out)) (fun hHeld=>?_);refine with_tabW spec_Newcomers.tab4 spec_Newcomers.bits4 (fun HT_ HW_=>?_)
    generalize wc.drew=w38 at HO_9 BK530 BK531 HB hHeld ⊢
    refine pu_ 1 34 #[O,I,O,O,O,O,O,O,O,O] HT_.out ?_
    refine pu_ 2 35 #[O,I,I,O,O,O,O,O,O,O] HT_.out ?_
    refine pu_ 5 38 #[O,I,I,O,O,I,O,O,O,O] HT_.out ?_
    refine pu_ 6 39 #[O,I,I,O,O,I,I,O,O,O] HT_.out ?_
    refine tk4_ 0 33 #[I,I,I,O,O,I,I,O,O,O] HT_.out HW_.out hHeld ?_
    refine tk4_ 4 37 #[I,I,I,O,I,I,I,O,O,O] HT_.out HW_.out hHeld ?_
    refine o1_ 3 36 #[I,I,I,I,I,I,I,O,O,O] HT_.out (fun K hK=>?_)
    refine gs_ Tryd.func54 #[.agg #[.int .i64 a0_0,.slice A0_1 l0_1.length c0_1],.string a2,.int .i64 a3] ?_
    with_reducible refine (spec_l04Owners.calls kj4 a0_0 _ _ l0_1 a2 a3 t539 _ ?s1 ?s2 A36.out).mono ?_
    (case s1=>repeat (first | exact (Kd.C_below HR0_1.out HB.out) | (with_reducible refine Kd.C_alloc ?_ _) | (with_reducible refine Kd.C_drewN ?_ _) | (with_reducible refine Kd.C_drew ?_)))
    (case s2=>exact HC0_1.out)
    rintro e w39 ⟨v540,rfl,ho0,hb⟩
    refine ⟨_,rfl,?_⟩
    refine as5_ (Kd.R_elder' (z1_ HO_9.out) (Kd.R_base ho0) hb) (Kd.R_lower (Kd.R_new' ho0 (Kd.R_lt (z1_ HO_9.out))) (below_size (z5_ HB.out GE530.out GE531.out))) (blkB_ BK530.out hb) (blkB_ BK531.out hb) (below_step (z5_ HB.out GE530.out GE531.out) hb) ?_
    clear HO_9 BK530 BK531 HB
    intro HO_9 HO541 BK530 BK531 HB
    (try clear hb)
    (try clear ho0)
    refine hK.out _ _ (cj2_ BK530.out (cc2_ BK531.out)) (fun hHeld=>?_)
    clear hK K
    refine nm_ 36 ?_
    refine o1_ 7 40 #[I,I,I,I,I,I,I,I,O,O] HT_.out (fun K hK=>?_)
    refine gs_ Tryd.func54 #[.agg #[.int .i64 a1_0,.slice A1_1 l1_1.length c1_1],.string a2,.int .i64 a3] ?_
    with_reducible refine (spec_l04Owners.calls kj4 a1_0 _ _ l1_1 a2 a3 t542 _ ?s1 ?s2 A37.out).mono ?_
    (case s1=>repeat (first | exact (Kd.C_below HR1_1.out HB.out) | (with_reducible refine Kd.C_alloc ?_ _) | (with_reducible refine Kd.C_drewN ?_ _) | (with_reducible refine Kd.C_drew ?_)))
    (case s2=>exact HC1_1.out)
    rintro e w40 ⟨v543,rfl,ho0,hb⟩
    refine ⟨_,rfl,?_⟩
    refine as6_ (Kd.R_elder' (z1_ HO_9.out) (Kd.R_base ho0) hb) (Kd.R_elder' (z1_ HO541.out) (Kd.R_base ho0) hb) (Kd.R_lower (Kd.R_new' (Kd.R_new' ho0 (Kd.R_lt (z1_ HO_9.out))) (Kd.R_lt (z1_ HO541.out))) (below_size (z5_ HB.out GE530.out GE531.out))) (blkB_ BK530.out hb) (blkB_ BK531.out hb) (below_step (z5_ HB.out GE530.out GE531.out) hb) ?_
    clear HO_9 HO541 BK530 BK531 HB
    intro HO_9 HO541 HO544 BK530 BK531 HB
    (try clear hb)
    (try clear ho0)
    refine hK.out _ _ (cj2_ BK530.out (cc2_ BK531.out)) (fun hHeld=>?_)
    clear hK K
    refine nm_ 40 ?_
    refine pu_ 8 10 #[I,I,I,I,I,I,I,I,I,O] HT_.out ?_
    refine pu_ 9 11 #[I,I,I,I,I,I,I,I,I,I] HT_.out ?_
    refine done_ (done_of HT_.out (by kernel_rfl)) ?_
    try go_wp2
    go_loopg [9,12] kj4 (fun kq v9 v12 w'=>∃ (x9_2:List Int) (x12_2:Int),v12 = .int .i64 x12_2∧Aside0 (spec_Newcomers.l0 kq x9_2 t539 t542 x12_2=some r)∧Aside0 (kq≤kj4)∧Aside0 (Kd.R (Kd.int .i64) 2 w' w.heap.size (fun k_=>some k_≠(v540:Value).ownBlock∧some k_≠(v543:Value).ownBlock) v9 x9_2)∧Aside0 (Kd.R (Kd.int .i64) 2 w' w.heap.size (fun k_=>some k_≠(v9:Value).ownBlock∧some k_≠(v543:Value).ownBlock) v540 t539)∧Aside0 (Kd.R (Kd.int .i64) 2 w' w.heap.size (fun k_=>some k_≠(v9:Value).ownBlock∧some k_≠(v540:Value).ownBlock) v543 t542)∧Aside0 (w'.heap[gb530]? = some (.cells #[.int .i64 a0_0,(.slice A0_1 l0_1.length c0_1)] 24 (0,0)))∧Aside0 (w'.heap[gb531]? = some (.cells #[.int .i64 a1_0,(.slice A1_1 l1_1.length c1_1)] 24 (0,0)))∧Aside0 (Below w.heap.size w w'))
    case atStart=>exact ⟨(y532),(0),(z2_),H',⟨Nat.le_refl _⟩,⟨z33_ HO_9.out⟩,⟨z33_ HO541.out⟩,⟨z33_ HO544.out⟩,⟨z3_ BK530.out⟩,⟨z3_ BK531.out⟩,⟨z5_ HB.out GE530.out GE531.out⟩⟩
    case round =>
     clear H'
     try clear c1
     try clear c2
     try clear p2
     try clear c3
     try clear c5
     try clear c11
     try clear c13
     try clear c15
     try clear c17
     try clear c20
     try clear c22
     try clear c27
     try clear c32
     try clear c35
     try clear hcz18_0
     try clear hcz18_1
     try clear hcz20_0
     try clear hcz20_1
     try clear hcz23_0
     try clear hcz23_1
     try clear hcz25_0
     try clear hcz25_1
     try clear hcz28_0
     try clear hcz28_1
     try clear hcz30_0
     try clear hcz30_1
     try clear hcz33_0
     try clear hcz33_1
     try clear hfz18_0
     try clear hfz18_1
     try clear hfz20_0
     try clear hfz20_1
     try clear hfz23_0
     try clear hfz23_1
     try clear hfz25_0
     try clear hfz25_1
     try clear hfz28_0
     try clear hfz28_1
     try clear hfz30_0
     try clear hfz30_1
     try clear hfz33_0
     try clear hfz33_1
     try clear p2
     obtain ⟨x9_2,x12_2,rfl,HA,HK2,HO_9,HO_10,HO_11,BK530,BK531,HB⟩:=hrel
     cases gk with
     | zero=>exact absurd HA.out (by simp [spec_Newcomers.l0])
     | succ k2 =>
      have H:=HA.out
      clear HA
      simp only [spec_Newcomers.l0] at H
      by_cases c41:x12_2<(t542.length:Int)
      ·rw [if_pos c41] at H
       have c41b0:decide (x12_2<(t542.length:Int))=true:=decide_eq_true c41
       clear c41
       by_cases c42:0≤x12_2
       ·rw [if_pos c42] at H
        have c42b0:decide (0≤x12_2)=true:=decide_eq_true c42
        clear c42
        replace H:=Option.bind_eq_some_iff.mp H
        obtain ⟨t546,A430,H⟩:=H
        replace H:(if t546=true then (spec_Newcomers.l0 k2 x9_2 t539 t542 (wrap64 (x12_2+1))) else (if x9_2.length<17592186044416 then (spec_Newcomers.l0 k2 (x9_2 ++ [rd t542 x12_2]) t539 t542 (wrap64 (x12_2+1))) else (none)))=some r:=H
        have A43:=Aside0.mk A430
        clear A430
        by_cases c44:t546=true
        ·subst c44
         have H1:(spec_Newcomers.l0 k2 x9_2 t539 t542 (wrap64 (x12_2+1)))=some r:=by rw [if_pos rfl] at H;exact H
         clear H
         have H:=H1
         clear H1
         have H':=Aside0.mk H
         clear H
         obtain ⟨Ao45,co45,eo45⟩:=Kd.R_slice HO_11.out
         subst eo45
         have p545:0≤(x12_2:Int):=of_decide_eq_true (z0_)
         have q545:x12_2<(t542.length:Int):=of_decide_eq_true (z0_)
         obtain ⟨ad545,e545,hx545_0⟩:=Kd.at_int (Kd.R_reads' HO_11.out).2.2 x12_2 p545 q545
         cases e545
         replace p545:=eq_true p545
         replace q545:=eq_true q545
         obtain ⟨Ao46,co46,eo46⟩:=Kd.R_slice HO_10.out
         subst eo46
         go_wp2_with (first | ((with_reducible refine gc_ 55 ?_);refine gl_ (some 52) Tryd.func55 #[.slice Ao46 t539.length co46,.int .i64 (rd t542 x12_2)] ?_;(with_reducible refine (spec_l04Among.calls k2 _ _ t539 (rd t542 x12_2) true _ ?s1 ?s2 A43.out).mono ?_);(case s1=>repeat (first | exact (Kd.R_reads' HO_10.out).2.2 | (with_reducible refine Kd.C_alloc ?_ _) | (with_reducible refine Kd.C_drewN ?_ _) | (with_reducible refine Kd.C_drew ?_)));(case s2=>exact (Kd.R_reads' HO_10.out).2.1);rintro e w' ⟨rfl,⟨nd,rfl⟩⟩;refine ⟨_,rfl,?_⟩))
         go_roundg k2
         case measure=>have:=HJ4.out;have:=HK2.out;omega
         case rel=>exact ⟨(x9_2),(wrap64 (x12_2+1)),(z2_),H',⟨z13_ HJ4.out HK2.out⟩,⟨z1_ HO_9.out⟩,⟨z1_ HO_10.out⟩,⟨z1_ HO_11.out⟩,⟨z3_ BK530.out⟩,⟨z3_ BK531.out⟩,⟨z5_ HB.out GE530.out GE531.out⟩⟩
        ·replace c44:=Bool.eq_false_iff.mpr c44
         subst c44
         have H1:(if x9_2.length<17592186044416 then (spec_Newcomers.l0 k2 (x9_2 ++ [rd t542 x12_2]) t539 t542 (wrap64 (x12_2+1))) else (none))=some r:=by rw [if_neg (show ¬ (false=true) by decide)] at H;exact H
         clear H
         have H:=H1
         clear H1
         by_cases c47:x9_2.length<17592186044416
         ·rw [if_pos c47] at H
          have LMc47:=Aside0.mk c47
          clear c47
          obtain ⟨y548,hy548⟩:∃ y_:List Int,y_=(x9_2 ++ [rd t542 x12_2]):=⟨_,rfl⟩
          replace H:(spec_Newcomers.l0 k2 y548 t539 t542 (wrap64 (x12_2+1)))=some r:=by first | (rw [hy548];with_reducible exact H) | (have H2_:=(Option.bind_some _ _).symm.trans H;rw [hy548];with_reducible exact H2_) | (have H2_:=(Option.bind_some _ _).symm.trans H;with_reducible exact H2_) | with_reducible exact H | (rw [hy548];exact H) | exact H
          have Ny548:=Aside0.mk hy548
          clear hy548
          have H':=Aside0.mk H
          clear H
          obtain ⟨Ao48,co48,eo48⟩:=Kd.R_slice HO_11.out
          subst eo48
          have p545:0≤(x12_2:Int):=of_decide_eq_true (z0_)
          have q545:x12_2<(t542.length:Int):=of_decide_eq_true (z0_)
          obtain ⟨ad545,e545,hx545_0⟩:=Kd.at_int (Kd.R_reads' HO_11.out).2.2 x12_2 p545 q545
          cases e545
          replace p545:=eq_true p545
          replace q545:=eq_true q545
          obtain ⟨Ao49,co49,eo49⟩:=Kd.R_slice HO_10.out
          subst eo49
          go_wp2_with (first | ((with_reducible refine gc_ 55 ?_);refine gl_ (some 52) Tryd.func55 #[.slice Ao49 t539.length co49,.int .i64 (rd t542 x12_2)] ?_;(with_reducible refine (spec_l04Among.calls k2 _ _ t539 (rd t542 x12_2) false _ ?s1 ?s2 A43.out).mono ?_);(case s1=>repeat (first | exact (Kd.R_reads' HO_10.out).2.2 | (with_reducible refine Kd.C_alloc ?_ _) | (with_reducible refine Kd.C_drewN ?_ _) | (with_reducible refine Kd.C_drew ?_)));(case s2=>exact (Kd.R_reads' HO_10.out).2.1);rintro e w' ⟨rfl,⟨nd,rfl⟩⟩;refine ⟨_,rfl,?_⟩;have p547:0≤(x12_2:Int):=of_decide_eq_true (z0_);have q547:x12_2<(t542.length:Int):=of_decide_eq_true (z0_);obtain ⟨ad547,e547,hx547_0⟩:=Kd.at_int (Kd.R_reads' HO_11.out).2.2 x12_2 p547 q547;obtain rfl:ad545=ad547:=(by injection e547);replace p547:=eq_true p547;replace q547:=eq_true q547) | ((with_reducible refine gate_builtin (b:=.append) (xs:=#[.tmp 54,.tmp 59]) rfl ?_);at_builtin;refine Kd.R_append (Kd.int .i64) (w0:=w) w.heap.size rfl (.tmp 54) (.tmp 59) 37 2 (.int .i64 0) 8 rfl Tryd.underlying37 info2 rfl (by decide) (by omega) u9 x9_2 (rd t542 x12_2) [.int .i64 (rd t542 x12_2)] (fun k_=>some k_≠(.slice Ao49 t539.length co49:Value).ownBlock∧some k_≠(.slice (some ad545) t542.length co48:Value).ownBlock) (fun _=>False) rfl rfl ?aP (fun _ hk=>hk.elim) ?aF ?aO ?aB ?aS ?aL ?_;(case aP=>exact rfl);(case aB=>exact (z5_ HB.out GE530.out GE531.out));(case aF=>exact (fun k_ hk=>⟨Kd.fresh' (Kd.R_lt (z1_ HO_10.out)) k_ hk,Kd.fresh' (Kd.R_lt (z1_ HO_11.out)) k_ hk⟩));(case aO=>exact (z1_ HO_9.out));(case aS=>exact (below_size (z5_ HB.out GE530.out GE531.out)));(case aL=>have:=LMc47.out;omega);intro v549 w50 ho hb hg hat;rw [← Ny548.out] at ho;refine as6_ (Kd.R_after (ok:=(fun k_=>some k_≠(.slice (some ad545) t542.length co48:Value).ownBlock)) (z38_ HO_10.out) hg hat) (Kd.R_after (ok:=(fun k_=>some k_≠(.slice Ao49 t539.length co49:Value).ownBlock)) (z38_ HO_11.out) hg hat) (blk_grown (g:=gb530) (o:=.cells #[.int .i64 a0_0,.slice A0_1 l0_1.length c0_1] 24 (0,0)) (z3_ BK530.out) hg (Kd.R_ne HO_9.out BK530.out (by decide))) (blk_grown (g:=gb531) (o:=.cells #[.int .i64 a1_0,.slice A1_1 l1_1.length c1_1] 24 (0,0)) (z3_ BK531.out) hg (Kd.R_ne HO_9.out BK531.out (by decide))) (hb) (ho) ?_;clear HO_10 HO_11 BK530 BK531 HB HO_9;intro HO_10 HO_11 BK530 BK531 HB HO550;clear ho hb hg hat))
          go_roundg k2
          case measure=>have:=HJ4.out;have:=HK2.out;omega
          case rel=>exact ⟨(y548),(wrap64 (x12_2+1)),(z2_),H',⟨z13_ HJ4.out HK2.out⟩,⟨z1_ HO550.out⟩,⟨z38_ HO_10.out⟩,⟨z38_ HO_11.out⟩,⟨z3_ BK530.out⟩,⟨z3_ BK531.out⟩,⟨z5_ HB.out GE530.out GE531.out⟩⟩
         ·rw [if_neg c47] at H
          exact absurd H (by simp)
       ·rw [if_neg c42] at H
        exact absurd H (by simp)
      ·rw [if_neg c41] at H
       have c41b0:decide (x12_2<(t542.length:Int))=false:=decide_eq_false c41
       clear c41
       obtain rfl:=Option.some.inj H
       obtain ⟨Ao51,co51,eo51⟩:=Kd.R_slice HO_11.out
       subst eo51
       go_wp2
       go_ret
       exact ⟨_,z10_,by (with_reducible repeat (first | apply Kd.R_alloc | apply Kd.R_drewN | apply Kd.R_drew));exact Kd.R_mono HO_9.out (fun _ hk=>trivial),z5_ HB.out GE530.out GE531.out⟩


/-! ### laws_szTokenS: function 57 -/
def laws_szTokenS.f (l0:List (S116)) (a1:Int):Option (Int):=if (wrap64 (a1-(l0.length:Int)))<0 then (some (-1)) else (some (wrap64 (a1-(l0.length:Int))))
set_option maxHeartbeats 8000000 in
set_option maxRecDepth 100000 in
theorem laws_szTokenS.calls (A0:Option Addr) (c0:Nat) (l0:List (S116)) (a1:Int) (r:Int) (w:World) (hr0:Kd.C k116 w A0 l0.length l0) (hc0:l0.length≤c0) (h:laws_szTokenS.f l0 a1=some r) :
  Calls Tryd.prog 57 #[.slice A0 l0.length c0,.int .i64 a1] w fun e w'=>e = .returned (.int .i64 r)∧Drawn0 w w':=by
 have HR0:=Aside0.mk hr0
 have HC0:=Aside0.mk hc0
 clear hr0 hc0
 have H:(if (wrap64 (a1-(l0.length:Int)))<0 then (some (-1)) else (some (wrap64 (a1-(l0.length:Int)))))=some r:=h
 clear h
 by_cases c3:(wrap64 (a1-(l0.length:Int)))<0
 ·rw [if_pos c3] at H
  have c3b0:decide ((wrap64 (a1-(l0.length:Int)))<0)=true:=decide_eq_true c3
  clear c3
  obtain rfl:=Option.some.inj H
  go_enter Tryd.func57,Tryd.ntmps57
  go_wp2
  go_ret
  exact ⟨z2_,z6_⟩
 ·rw [if_neg c3] at H
  have c3b0:decide ((wrap64 (a1-(l0.length:Int)))<0)=false:=decide_eq_false c3
  clear c3
  obtain rfl:=Option.some.inj H
  go_enter Tryd.func57,Tryd.ntmps57
  go_wp2
  go_ret
  exact ⟨z2_,z6_⟩


/-! ### laws_szRing: function 23 -/
def laws_szRing.f (a0_0:Int) (l0_1:List (S116)) (a1:Int):Option (Int):=(laws_szTokenS.f l0_1 a1).bind fun t616=>(if t616<0 then (some (-1)) else (some t616))
set_option maxHeartbeats 8000000 in
set_option maxRecDepth 100000 in
theorem laws_szRing.calls (a0_0:Int) (A0_1:Option Addr) (c0_1:Nat) (l0_1:List (S116)) (a1:Int) (r:Int) (w:World) (hr0_1:Kd.C k116 w A0_1 l0_1.length l0_1) (hc0_1:l0_1.length≤c0_1) (h:laws_szRing.f a0_0 l0_1 a1=some r) :
  Calls Tryd.prog 23 #[.agg #[.int .i64 a0_0,.slice A0_1 l0_1.length c0_1],.int .i64 a1] w fun e w'=>e = .returned (.int .i64 r)∧Below w.heap.size w w':=by
 have hu44:=Tryd.underlying44
 have HR0_1:=Aside0.mk hr0_1
 have HC0_1:=Aside0.mk hc0_1
 clear hr0_1 hc0_1
 have HB:=Aside0.mk (Below.refl w.heap.size w)
 have H:((laws_szTokenS.f l0_1 a1).bind fun t616=>(if t616<0 then (some (-1)) else (some t616)))=some r:=h
 clear h
 replace H:=Option.bind_eq_some_iff.mp H
 obtain ⟨t616,A30,H⟩:=H
 replace H:(if t616<0 then (some (-1)) else (some t616))=some r:=H
 have A3:=Aside0.mk A30
 clear A30
 by_cases c4:t616<0
 ·rw [if_pos c4] at H
  have c4b0:decide (t616<0)=true:=decide_eq_true c4
  clear c4
  obtain rfl:=Option.some.inj H
  go_enter Tryd.func23,Tryd.ntmps23
  go_wp2_with (first | ((with_reducible refine gd_ 2 ?_);refine be_ 2 #[.int .i64 a0_0,.slice A0_1 l0_1.length c0_1] 44 ?_;intro gb615 hg w5 hbox hb;refine as4_ (below_step (z4_ HB.out) hb) (hbox) ((z8_ HB.out:w.heap.size≤gb615)) ((z8_ HB.out:w.heap.size≤gb615)) ?_;clear HB;intro HB BK615 GW615 GE615;clear hb hbox hg;have ⟨hcz6_0,hcz6_1,hfz6_0,hfz6_1⟩:=cz2_ BK615.out) | ((with_reducible refine gc_ 57 ?_);refine gl_ (some 8) Tryd.func57 #[.slice A0_1 l0_1.length c0_1,.int .i64 a1] ?_;(with_reducible refine (laws_szTokenS.calls _ _ l0_1 a1 t616 _ ?s1 ?s2 A3.out).mono ?_);(case s1=>repeat (first | exact (Kd.C_below HR0_1.out HB.out) | (with_reducible refine Kd.C_alloc ?_ _) | (with_reducible refine Kd.C_drewN ?_ _) | (with_reducible refine Kd.C_drew ?_)));(case s2=>exact HC0_1.out);rintro e w' ⟨rfl,⟨nd,rfl⟩⟩;refine ⟨_,rfl,?_⟩))
  go_ret
  exact ⟨z10_,z7_ HB.out GE615.out⟩
 ·rw [if_neg c4] at H
  have c4b0:decide (t616<0)=false:=decide_eq_false c4
  clear c4
  obtain rfl:=Option.some.inj H
  go_enter Tryd.func23,Tryd.ntmps23
  go_wp2_with (first | ((with_reducible refine gd_ 2 ?_);refine be_ 2 #[.int .i64 a0_0,.slice A0_1 l0_1.length c0_1] 44 ?_;intro gb615 hg w7 hbox hb;refine as4_ (below_step (z4_ HB.out) hb) (hbox) ((z8_ HB.out:w.heap.size≤gb615)) ((z8_ HB.out:w.heap.size≤gb615)) ?_;clear HB;intro HB BK615 GW615 GE615;clear hb hbox hg;have ⟨hcz8_0,hcz8_1,hfz8_0,hfz8_1⟩:=cz2_ BK615.out) | ((with_reducible refine gc_ 57 ?_);refine gl_ (some 8) Tryd.func57 #[.slice A0_1 l0_1.length c0_1,.int .i64 a1] ?_;(with_reducible refine (laws_szTokenS.calls _ _ l0_1 a1 t616 _ ?s1 ?s2 A3.out).mono ?_);(case s1=>repeat (first | exact (Kd.C_below HR0_1.out HB.out) | (with_reducible refine Kd.C_alloc ?_ _) | (with_reducible refine Kd.C_drewN ?_ _) | (with_reducible refine Kd.C_drew ?_)));(case s2=>exact HC0_1.out);rintro e w' ⟨rfl,⟨nd,rfl⟩⟩;refine ⟨_,rfl,?_⟩))
  go_ret
  exact ⟨z10_,z7_ HB.out GE615.out⟩


/-! ### laws_toToken: function 94 -/
def laws_toToken.f (a0_0:Int) (a0_1:Int):Option (Int × Int):=some (a0_0,a0_1)
set_option maxHeartbeats 8000000 in
set_option maxRecDepth 100000 in
theorem laws_toToken.calls (a0_0:Int) (a0_1:Int) (r1:Int) (r2:Int) (w:World) (h:laws_toToken.f a0_0 a0_1=some (r1,r2)) :
  Calls Tryd.prog 94 #[.agg #[.int .i64 a0_0,.int .i64 a0_1]] w fun e w'=>e = .returned (.agg #[.int .i64 r1,.int .i64 r2])∧Below w.heap.size w w':=by
 have hu116:=Tryd.underlying116
 have hu77:=Tryd.underlying77
 have HB:=Aside0.mk (Below.refl w.heap.size w)
 have H:(some (a0_0,a0_1))=some (r1,r2):=h
 clear h
 simp only [Option.some.injEq,Prod.mk.injEq] at H
 obtain ⟨rfl,rfl⟩:=H
 go_enter Tryd.func94,Tryd.ntmps94
 go_wp2_with (first | ((with_reducible refine gd_ 1 ?_);refine be_ 1 #[.int .i64 a0_0,.int .i64 a0_1] 116 ?_;intro gb617 hg w2 hbox hb;refine as4_ (below_step (z4_ HB.out) hb) (hbox) ((z8_ HB.out:w.heap.size≤gb617)) ((z8_ HB.out:w.heap.size≤gb617)) ?_;clear HB;intro HB BK617 GW617 GE617;clear hb hbox hg) | ((with_reducible refine gd_ 2 ?_);refine be_ 2 #[.int .i64 0,.int .i64 0] 77 ?_;intro gb618 hg w3 hbox hb;refine as7_ (blkB_ BK617.out hb) (below_step (z7_ HB.out GE617.out) hb) (hbox) ((z11_ HB.out GE617.out:w.heap.size≤gb618)) ((z11_ HB.out GE617.out:w.heap.size≤gb618)) (neL_ BK617.out hg) (neG_ BK617.out hg) ?_;clear BK617 HB;intro BK617 HB BK618 GW618 GE618 NB617_618 NB618_617;clear hb hbox hg) | ((with_reducible refine gd_ 3 ?_);refine be_ 3 #[.int .i64 0,.int .i64 0] 77 ?_;intro gb619 hg w4 hbox hb;refine as10_ (blkB_ BK617.out hb) (blkB_ BK618.out hb) (below_step (z5_ HB.out GE617.out GE618.out) hb) (hbox) ((z18_ HB.out GE617.out GE618.out:w.heap.size≤gb619)) ((z18_ HB.out GE617.out GE618.out:w.heap.size≤gb619)) (neL_ BK617.out hg) (neG_ BK617.out hg) (neL_ BK618.out hg) (neG_ BK618.out hg) ?_;clear BK617 BK618 HB;intro BK617 BK618 HB BK619 GW619 GE619 NB617_619 NB619_617 NB618_619 NB619_618;clear hb hbox hg;have hnb5:=NB617_618.out;have hnc5:=NB618_617.out;have hnb6:=NB617_619.out;have hnc6:=NB619_617.out;have ⟨hcz7_0,hcz7_1,hfz7_0,hfz7_1⟩:=cz2_ BK617.out;have hnb8:=NB619_618.out;have hnc8:=NB618_619.out;have ⟨hcz9_0,hcz9_1,hfz9_0,hfz9_1⟩:=cz2_ BK619.out;have ⟨hcz10_0,hcz10_1,hfz10_0,hfz10_1⟩:=cz2_ BK618.out))
 refine bodyPost_ret (results_cell_row rfl _ _ gb618 77 #[.int .i64 a0_0,.int .i64 a0_1] (0,0) _ rfl (by (with_reducible repeat (first | refine blk_drewN ?_ _ | refine blk_drew ?_ | refine blk_alloc ?_ _));apply put2_;(with_reducible repeat (first | refine blk_drewN ?_ _ | refine blk_drew ?_ | refine blk_alloc ?_ _));refine blk_far ?_ NB618_619.out _;(with_reducible repeat (first | refine blk_drewN ?_ _ | refine blk_drew ?_ | refine blk_alloc ?_ _));refine blk_far ?_ NB618_619.out _;(with_reducible repeat (first | refine blk_drewN ?_ _ | refine blk_drew ?_ | refine blk_alloc ?_ _));exact BK618.out) Tryd.underlying77 rfl (by kernel_rfl)) rfl ?_
 exact ⟨z10_,z12_ HB.out GE617.out GE618.out GE619.out⟩


/-! ### laws_toTokenS: function 58 -/
def laws_toTokenS.l0:Nat→List (S116)→List (S77)→Int→Option ((List (S77)))
 | 0,_,_,_=>none
 | k+1,x0,x3,x4=>if x4<(x0.length:Int) then (if 0≤x4 then ((laws_toToken.f ((rd_T116 x0 x4).f0) ((rd_T116 x0 x4).f1)).bind fun bt624=>(if x4<(x3.length:Int) then (laws_toTokenS.l0 k x0 (x3.set (x4:Int).toNat (⟨bt624.1,bt624.2⟩:S77)) (wrap64 (x4+1))) else (none))) else (none)) else (some x3)
def laws_toTokenS.f (k:Nat) (l0:List (S116)):Option ((List (S77))):=if 0≤(l0.length:Int) then (if ((l0.length:Int):Int).toNat≤17592186044416 then (laws_toTokenS.l0 k l0 (List.replicate ((l0.length:Int):Int).toNat z77) 0) else (none)) else (none)
theorem laws_toTokenS.mono_l:∀ k,(∀ y0 y1 y2,LeO (laws_toTokenS.l0 k y0 y1 y2) (laws_toTokenS.l0 (k+1) y0 y1 y2))
 | 0=>fun _ _ _ r h=>by simp [laws_toTokenS.l0] at h
 | k+1=>by
  have ih0:=laws_toTokenS.mono_l k
  ·intro y0 y1 y2
   unfold laws_toTokenS.l0
   repeat' first
   | (with_reducible exact ih0 _ _ _)
   | (with_reducible exact LeO.refl _)
   | (with_reducible exact LeO.none _)
   | (with_reducible refine LeO.ite ?_ ?_)
   | (with_reducible refine LeO.bind ?_ (fun _=>?_))
   | exact ih0 _ _ _
   | exact LeO.none _
   | refine LeO.ite ?_ ?_
   | refine LeO.bind ?_ (fun _=>?_)
theorem laws_toTokenS.mono:∀ a0 k,LeO (laws_toTokenS.f k a0) (laws_toTokenS.f (k+1) a0):=by
 intro a0 k
 have ih0:=laws_toTokenS.mono_l k
 unfold laws_toTokenS.f
 repeat' first
   | (with_reducible exact ih0 _ _ _)
   | (with_reducible exact LeO.refl _)
   | (with_reducible exact LeO.none _)
   | (with_reducible refine LeO.ite ?_ ?_)
   | (with_reducible refine LeO.bind ?_ (fun _=>?_))
   | exact ih0 _ _ _
   | exact LeO.none _
   | refine LeO.ite ?_ ?_
   | refine LeO.bind ?_ (fun _=>?_)
set_option maxHeartbeats 8000000 in
set_option maxRecDepth 100000 in
theorem laws_toTokenS.calls (k:Nat) (A0:Option Addr) (c0:Nat) (l0:List (S116)) (r:List (S77)) (w:World) (hr0:Kd.C k116 w A0 l0.length l0) (hc0:l0.length≤c0) (h:laws_toTokenS.f k l0=some r) :
  Calls Tryd.prog 58 #[.slice A0 l0.length c0] w fun e w'=>∃ v0_:Value,e = .returned (v0_)∧Kd.R k77 77 w' w.heap.size (fun _=>True) v0_ r∧Below w.heap.size w w':=by
 have hu116:=Tryd.underlying116
 have hu77:=Tryd.underlying77
 have HR0:=Aside0.mk hr0
 have HC0:=Aside0.mk hc0
 clear hr0 hc0
 have HB:=Aside0.mk (Below.refl w.heap.size w)
 have H:(if 0≤(l0.length:Int) then (if ((l0.length:Int):Int).toNat≤17592186044416 then (laws_toTokenS.l0 k l0 (List.replicate ((l0.length:Int):Int).toNat z77) 0) else (none)) else (none))=some r:=h
 clear h
 by_cases c2:0≤(l0.length:Int)
 ·rw [if_pos c2] at H
  have c2b0:=eq_true c2
  have c2b1:decide (0≤(l0.length:Int))=true:=decide_eq_true c2
  clear c2
  by_cases c3:((l0.length:Int):Int).toNat≤17592186044416
  ·rw [if_pos c3] at H
   have c3b0:=eq_true c3
   have c3b1:decide (((l0.length:Int):Int).toNat≤17592186044416)=true:=decide_eq_true c3
   clear c3
   obtain ⟨y620,hy620⟩:∃ y_:List (S77),y_=(List.replicate ((l0.length:Int):Int).toNat z77):=⟨_,rfl⟩
   replace H:(laws_toTokenS.l0 k l0 y620 0)=some r:=by first | (rw [hy620];with_reducible exact H) | (have H2_:=(Option.bind_some _ _).symm.trans H;rw [hy620];with_reducible exact H2_) | (have H2_:=(Option.bind_some _ _).symm.trans H;with_reducible exact H2_) | with_reducible exact H | (rw [hy620];exact H) | exact H
   have Ny620:=Aside0.mk hy620
   clear hy620
   have H':=Aside0.mk H
   clear H
   go_enter Tryd.func58,Tryd.ntmps58
   go_wp2_with (first | ((with_reducible refine gd_ 7 ?_);refine Kd.R_make k77 _ 77 rfl (N:=7) rfl 22 _ _ rfl (l0.length:Int) rfl rfl Tryd.underlying22 (.agg #[(.int .i64 0),(.int .i64 0)]) 16 info77 rfl (by decide) (by omega) z77 (ok:=fun _=>True) (okp:=fun _=>True) (k77_mkM _ _ _ z77 ) (fun _ hk=>hk) trivial (of_decide_eq_true (z0_)) (Nat.le_trans (Nat.mul_le_mul_right _ (of_decide_eq_true (z0_):(l0.length:Int).toNat≤17592186044416)) (by omega)) (Below.refl _ _) (Nat.le_refl _) ?_;intro v621 w4 ho5 hb hg_ hnew_;clear hg_ hnew_;(first | rw [← Ny620.out] at ho5 | (simp only [Int.reduceToNat] at ho5;rw [← Ny620.out] at ho5));refine as2_ (Kd.R_lower ho5 (below_size (z4_ HB.out))) (below_step (z4_ HB.out) hb) ?_;clear HB;intro HO622 HB;clear hb ho5))
   go_loopg [4] k (fun kq v4 w'=>∃ (x3_1:List (S77)) (x4_1:Int),v4 = .int .i64 x4_1∧Aside0 (laws_toTokenS.l0 kq l0 x3_1 x4_1=some r)∧Aside0 (kq≤k)∧Aside0 (Kd.R k77 77 w' w.heap.size (fun _=>True) v621 x3_1)∧Aside0 (Below w.heap.size w w'))
   case atStart=>exact ⟨(y620),(0),(z2_),H',⟨Nat.le_refl _⟩,⟨z1_ HO622.out⟩,⟨z4_ HB.out⟩⟩
   case round =>
    clear H'
    try clear c2
    try clear c2b0
    try clear c2b1
    try clear p2
    try clear c3
    try clear c3b0
    try clear c3b1
    try clear c5
    obtain ⟨x3_1,x4_1,rfl,HA,HK1,HO_3,HB⟩:=hrel
    cases gk with
    | zero=>exact absurd HA.out (by simp [laws_toTokenS.l0])
    | succ k1 =>
     have H:=HA.out
     clear HA
     simp only [laws_toTokenS.l0] at H
     by_cases c6:x4_1<(l0.length:Int)
     ·rw [if_pos c6] at H
      have c6b0:decide (x4_1<(l0.length:Int))=true:=decide_eq_true c6
      clear c6
      by_cases c7:0≤x4_1
      ·rw [if_pos c7] at H
       have c7b0:decide (0≤x4_1)=true:=decide_eq_true c7
       clear c7
       replace H:=Option.bind_eq_some_iff.mp H
       obtain ⟨⟨t624,t625⟩,A80,H⟩:=H
       replace H:(if x4_1<(x3_1.length:Int) then (laws_toTokenS.l0 k1 l0 (x3_1.set (x4_1:Int).toNat (⟨t624,t625⟩:S77)) (wrap64 (x4_1+1))) else (none))=some r:=H
       have A8:=Aside0.mk A80
       clear A80
       by_cases c9:x4_1<(x3_1.length:Int)
       ·rw [if_pos c9] at H
        have c9b0:decide (x4_1<(x3_1.length:Int))=true:=decide_eq_true c9
        clear c9
        obtain ⟨y626,hy626⟩:∃ y_:List (S77),y_=(x3_1.set (x4_1:Int).toNat (⟨t624,t625⟩:S77)):=⟨_,rfl⟩
        replace H:(laws_toTokenS.l0 k1 l0 y626 (wrap64 (x4_1+1)))=some r:=by first | (rw [hy626];with_reducible exact H) | (have H2_:=(Option.bind_some _ _).symm.trans H;rw [hy626];with_reducible exact H2_) | (have H2_:=(Option.bind_some _ _).symm.trans H;with_reducible exact H2_) | with_reducible exact H | (rw [hy626];exact H) | exact H
        have Ny626:=Aside0.mk hy626
        clear hy626
        have H':=Aside0.mk H
        clear H
        have p623:0≤(x4_1:Int):=of_decide_eq_true (z0_)
        have q623:x4_1<(l0.length:Int):=of_decide_eq_true (z0_)
        obtain ⟨ad623,e623,hx623_0,hx623_1⟩:=at_T116 HR0.out x4_1 p623 q623
        cases e623
        replace hx623_0:=(HB.out.cell (World.block_lt_of_cell? w _ hx623_0)).trans hx623_0
        replace hx623_1:=(HB.out.cell (World.block_lt_of_cell? w _ hx623_1)).trans hx623_1
        replace p623:=eq_true p623
        replace q623:=eq_true q623
        go_wp2_with (first | ((with_reducible refine gc_ 94 ?_);refine gl_ (some 20) Tryd.func94 #[.agg #[.int .i64 ((rd_T116 l0 x4_1).f0),.int .i64 ((rd_T116 l0 x4_1).f1)]] ?_;(with_reducible refine (laws_toToken.calls ((rd_T116 l0 x4_1).f0) ((rd_T116 l0 x4_1).f1) t624 t625 _ A8.out).mono ?_);rintro e w11 ⟨rfl,hb⟩;refine ⟨_,rfl,?_⟩;refine as2_ (Kd.R_below (z1_ HO_3.out) hb) (below_step (z4_ HB.out) hb) ?_;clear HO_3 HB;intro HO_3 HB;(try clear hb);have p10:0≤(x4_1:Int):=of_decide_eq_true (z0_);have q10:(x4_1:Int)<((x3_1.length:Int):Int):=of_decide_eq_true (z0_);obtain ⟨go10,co10,eo10,gb10,gl10,cl10,HG10⟩:=Kd.R_form HO_3.out (by omega);(first | cases eo10 | (injection eo10 with ea_ en_ ec_;(first | subst ea_ | (injection ea_ with ea_;subst ea_));subst ec_;clear en_));have GB10:=Aside0.mk gb10;have GG10:=Aside0.mk HG10;clear gb10 gl10 HG10;obtain ⟨ce10,hcl10,hM10,hcc10,hfr10⟩:=Kd.R_elem HO_3.out z77 (x4_1:Int) p10 q10;obtain rfl:=k77_openM hM10;have hx10_0:w11.cell? ⟨go10,(x4_1:Int).toNat*2,none⟩=some (.int .i64 ((rd_T77 x3_1 x4_1).f0)):=hcc10 0 _ rfl;have hx10_1:w11.cell? ⟨go10,(x4_1:Int).toNat*2+1,none⟩=some (.int .i64 ((rd_T77 x3_1 x4_1).f1)):=hcc10 1 _ rfl;have hf10_0:w11.frozen? ⟨go10,(x4_1:Int).toNat*2,none⟩=false:=hfr10 0;have hf10_1:w11.frozen? ⟨go10,(x4_1:Int).toNat*2+1,none⟩=false:=hfr10 1;clear hcl10 hcc10 hfr10 hM10;replace p10:=eq_true p10;replace q10:=eq_true q10;have HX12:=Aside0.mk (show Kd.R k77 77 w11 w.heap.size (fun _=>True) (.slice (some ⟨go10,0,none⟩) x3_1.length co10) x3_1 from (z1_ HO_3.out));obtain ⟨ce12,hcl12,hM12,hcc12,hfr12⟩:=Kd.R_elem HX12.out z77 (x4_1:Int) (of_decide_eq_true (z0_)) (by have h_:(x4_1:Int)<((x3_1.length:Int):Int):=of_decide_eq_true (by first | (with_reducible assumption) | assumption);first | exact h_ | (have e_:=(Kd.R_reads' HO_3.out).1;omega) | simpa using h_);obtain rfl:=k77_openM hM12;have HP12:=Kd.R_seg HX12.out (x4_1:Int) (of_decide_eq_true (z0_)) (by have h_:(x4_1:Int)<((x3_1.length:Int):Int):=of_decide_eq_true (by first | (with_reducible assumption) | assumption);first | exact h_ | (have e_:=(Kd.R_reads' HO_3.out).1;omega) | simpa using h_) (seg:=[.int .i64 t624,.int .i64 t625]) (j:=0) hcl12 hcc12 (show 2≤2 from by decide) (x':=(⟨t624,t625⟩:S77)) (k77_mkM _ _ _ (⟨t624,t625⟩:S77) ) (fun _ hk=>hk);have hx12_0:=hcc12 0 _ rfl;(try simp only [show (k77).sz=2 from rfl,Nat.mul_one,Nat.add_zero] at hx12_0);have hf12_0:=hfr12 0;(try simp only [show (k77).sz=2 from rfl,Nat.mul_one,Nat.add_zero] at hf12_0);have hx12_1:=hcc12 1 _ rfl;(try simp only [show (k77).sz=2 from rfl,Nat.mul_one,Nat.add_zero] at hx12_1);have hf12_1:=hfr12 1;(try simp only [show (k77).sz=2 from rfl,Nat.mul_one,Nat.add_zero] at hf12_1);clear hcl12 hcc12 hfr12 hM12) | ((with_reducible refine gate_store (t:=77) (p:=21) rfl ?_);refine store_event (t:=77) (p:=21) (v:=?vo_w13) (w1:=((w11.setCell ⟨go10,(x4_1:Int).toNat*2,none⟩ (.int .i64 t624)).setCell ⟨go10,(x4_1:Int).toNat*2+1,none⟩ (.int .i64 t625))) ?hg ?ho ?hn ?hr ?_;(case ho=>rfl);(case hg=>rfl);(case hn=>rfl);(case hr=>first | (go_simp;done) | (go_simp;rfl));intro w13 hw;have hg:w11.grownBy w13 (some go10):=(by rw [hw];exact HP12.2);have hp_:Kd.R k77 77 w13 w.heap.size (fun _=>True) (.slice (some ⟨go10,0,none⟩) x3_1.length co10) y626:=(by rw [hw,Ny626.out];exact HP12.1);clear HP12;refine as2_ (hp_) ((by rw [hw];exact below_set (below_set (HB.out) GB10.out) GB10.out:Below w.heap.size w w13)) ?_;clear HO_3 HB;intro HO_3 HB;clear hg hw hp_))
        go_roundg k1
        case measure=>have:=HK1.out;omega
        case rel=>exact ⟨(y626),(wrap64 (x4_1+1)),(z2_),H',⟨by have:=HK1.out;omega⟩,⟨z1_ HO_3.out⟩,⟨z4_ HB.out⟩⟩
       ·rw [if_neg c9] at H
        exact absurd H (by simp)
      ·rw [if_neg c7] at H
       exact absurd H (by simp)
     ·rw [if_neg c6] at H
      have c6b0:decide (x4_1<(l0.length:Int))=false:=decide_eq_false c6
      clear c6
      obtain rfl:=Option.some.inj H
      go_wp2
      go_ret
      exact ⟨_,z10_,z1_ HO_3.out,z4_ HB.out⟩
  ·rw [if_neg c3] at H
   exact absurd H (by simp)
 ·rw [if_neg c2] at H
  exact absurd H (by simp)


/-! ### laws_toRing: function 24 -/
def laws_toRing.f (k:Nat) (a0_0:Int) (l0_1:List (S116)):Option (Int × (List (S77))):=(laws_toTokenS.f k l0_1).bind fun t630=>(some (a0_0,t630))
theorem laws_toRing.mono:∀ a0 a1 k,LeO (laws_toRing.f k a0 a1) (laws_toRing.f (k+1) a0 a1):=by
 intro a0 a1 k
 unfold laws_toRing.f
 repeat' first
   | (with_reducible exact laws_toTokenS.mono _ _)
   | (with_reducible exact LeO.refl _)
   | (with_reducible exact LeO.none _)
   | (with_reducible refine LeO.ite ?_ ?_)
   | (with_reducible refine LeO.bind ?_ (fun _=>?_))
   | exact laws_toTokenS.mono _ _
   | exact LeO.none _
   | refine LeO.ite ?_ ?_
   | refine LeO.bind ?_ (fun _=>?_)
set_option maxHeartbeats 8000000 in
set_option maxRecDepth 100000 in
theorem laws_toRing.calls (k:Nat) (a0_0:Int) (A0_1:Option Addr) (c0_1:Nat) (l0_1:List (S116)) (r1:Int) (r2:List (S77)) (w:World) (hr0_1:Kd.C k116 w A0_1 l0_1.length l0_1) (hc0_1:l0_1.length≤c0_1) (h:laws_toRing.f k a0_0 l0_1=some (r1,r2)) :
  Calls Tryd.prog 24 #[.agg #[.int .i64 a0_0,.slice A0_1 l0_1.length c0_1]] w fun e w'=>∃ v1_:Value,e = .returned (.agg #[.int .i64 r1,v1_])∧Kd.R k77 77 w' w.heap.size (fun _=>True) v1_ r2∧Below w.heap.size w w':=by
 have hu44:=Tryd.underlying44
 have hu24:=Tryd.underlying24
 have HR0_1:=Aside0.mk hr0_1
 have HC0_1:=Aside0.mk hc0_1
 clear hr0_1 hc0_1
 have HB:=Aside0.mk (Below.refl w.heap.size w)
 have H:((laws_toTokenS.f k l0_1).bind fun t630=>(some (a0_0,t630)))=some (r1,r2):=h
 clear h
 replace H:=Option.bind_eq_some_iff.mp H
 obtain ⟨t630,A20,H⟩:=H
 replace H:(some (a0_0,t630))=some (r1,r2):=H
 have A2:=Aside0.mk A20
 clear A20
 simp only [Option.some.injEq,Prod.mk.injEq] at H
 obtain ⟨rfl,rfl⟩:=H
 go_enter Tryd.func24,Tryd.ntmps24
 go_wp2_with (first | ((with_reducible refine gd_ 1 ?_);refine be_ 1 #[.int .i64 a0_0,.slice A0_1 l0_1.length c0_1] 44 ?_;intro gb627 hg w3 hbox hb;refine as4_ (below_step (z4_ HB.out) hb) (hbox) ((z8_ HB.out:w.heap.size≤gb627)) ((z8_ HB.out:w.heap.size≤gb627)) ?_;clear HB;intro HB BK627 GW627 GE627;clear hb hbox hg) | ((with_reducible refine gd_ 2 ?_);refine be_ 2 #[.int .i64 0,.slice none 0 0] 24 ?_;intro gb628 hg w4 hbox hb;refine as7_ (blkB_ BK627.out hb) (below_step (z7_ HB.out GE627.out) hb) (hbox) ((z11_ HB.out GE627.out:w.heap.size≤gb628)) ((z11_ HB.out GE627.out:w.heap.size≤gb628)) (neL_ BK627.out hg) (neG_ BK627.out hg) ?_;clear BK627 HB;intro BK627 HB BK628 GW628 GE628 NB627_628 NB628_627;clear hb hbox hg) | ((with_reducible refine gd_ 3 ?_);refine be_ 3 #[.int .i64 0,.slice none 0 0] 24 ?_;intro gb629 hg w5 hbox hb;refine as10_ (blkB_ BK627.out hb) (blkB_ BK628.out hb) (below_step (z5_ HB.out GE627.out GE628.out) hb) (hbox) ((z18_ HB.out GE627.out GE628.out:w.heap.size≤gb629)) ((z18_ HB.out GE627.out GE628.out:w.heap.size≤gb629)) (neL_ BK627.out hg) (neG_ BK627.out hg) (neL_ BK628.out hg) (neG_ BK628.out hg) ?_;clear BK627 BK628 HB;intro BK627 BK628 HB BK629 GW629 GE629 NB627_629 NB629_627 NB628_629 NB629_628;clear hb hbox hg;have hnb6:=NB627_628.out;have hnc6:=NB628_627.out;have hnb7:=NB627_629.out;have hnc7:=NB629_627.out;have ⟨hcz8_0,hcz8_1,hfz8_0,hfz8_1⟩:=cz2_ BK627.out;have hnb9:=NB629_628.out;have hnc9:=NB628_629.out;have ⟨hcz10_0,hcz10_1,hfz10_0,hfz10_1⟩:=cz2_ BK629.out) | ((with_reducible refine gc_ 58 ?_);refine gl_ (some 9) Tryd.func58 #[.slice A0_1 l0_1.length c0_1] ?_;(with_reducible refine (laws_toTokenS.calls k _ _ l0_1 t630 _ ?s1 ?s2 A2.out).mono ?_);(case s1=>exact Kd.C_below HR0_1.out (z12_ HB.out GE627.out GE628.out GE629.out));(case s2=>exact HC0_1.out);rintro e w11 ⟨v631,rfl,ho0,hb⟩;refine ⟨_,rfl,?_⟩;refine as5_ (Kd.R_lower ho0 (below_size (z12_ HB.out GE627.out GE628.out GE629.out))) (blk_below (g:=gb627) (o:=.cells #[.int .i64 a0_0,.slice A0_1 l0_1.length c0_1] 44 (0,0)) (z28_ NB627_629.out BK627.out) hb) (blk_below (g:=gb628) (o:=.cells #[.int .i64 0,.slice none 0 0] 24 (0,0)) (z28_ NB628_629.out BK628.out) hb) (blk_below (g:=gb629) (o:=.cells #[.int .i64 a0_0,.slice none 0 0] 24 (0,0)) (by (with_reducible repeat (first | refine blk_drewN ?_ _ | refine blk_drew ?_ | refine blk_alloc ?_ _));refine blk_put (cs:=#[.int .i64 0,.slice none 0 0]) ?_ 0 _ rfl;(with_reducible repeat (first | refine blk_drewN ?_ _ | refine blk_drew ?_ | refine blk_alloc ?_ _));exact BK629.out) hb) (below_step (z12_ HB.out GE627.out GE628.out GE629.out) hb) ?_;clear BK627 BK628 BK629 HB;intro HO632 BK627 BK628 BK629 HB;(try clear hb);(try clear ho0);obtain ⟨Ao12,co12,eo12⟩:=Kd.R_slice HO632.out;subst eo12;have ⟨hcz13_0,hcz13_1,hfz13_0,hfz13_1⟩:=cz2_ BK629.out;have ⟨hcz14_0,hcz14_1,hfz14_0,hfz14_1⟩:=cz2_ BK628.out))
 refine bodyPost_ret (results_cell_row rfl _ _ gb628 24 #[.int .i64 a0_0,.slice Ao12 t630.length co12] (0,0) _ rfl (by (with_reducible repeat (first | refine blk_drewN ?_ _ | refine blk_drew ?_ | refine blk_alloc ?_ _));apply put2_;(with_reducible repeat (first | refine blk_drewN ?_ _ | refine blk_drew ?_ | refine blk_alloc ?_ _));refine blk_far ?_ NB628_629.out _;(with_reducible repeat (first | refine blk_drewN ?_ _ | refine blk_drew ?_ | refine blk_alloc ?_ _));exact BK628.out) Tryd.underlying24 rfl (by kernel_rfl)) rfl ?_
 exact ⟨_,z10_,by (with_reducible repeat (first | apply Kd.R_alloc | apply Kd.R_drewN | apply Kd.R_drew));exact Kd.R_mono (rf2_ (Kd.R_far (p:=⟨gb629,1,none⟩) (Kd.R_types (Kd.R_types HO632.out BK629.out (by decide)) BK628.out (by decide)) (fun _ hk=>hk.1.2) (.slice Ao12 t630.length co12)) (fun _ hk=>hk.2)) (fun _ hk=>trivial),z12_ HB.out GE627.out GE628.out GE629.out⟩


/-! ### laws_eqInt64S: function 25 -/
def laws_eqInt64S.l0:Nat→List Int→List Int→Int→Option (Bool)
 | 0,_,_,_=>none
 | k+1,x0,x1,x5=>if x5<(x0.length:Int) then (if 0≤x5 then (if x5<(x1.length:Int) then (if (rd x0 x5)=(rd x1 x5) then (laws_eqInt64S.l0 k x0 x1 (wrap64 (x5+1))) else (none)) else (none)) else (none)) else (some true)
def laws_eqInt64S.f (k:Nat) (l0:List Int) (l1:List Int):Option (Bool):=if (l0.length:Int)=(l1.length:Int) then (laws_eqInt64S.l0 k l0 l1 0) else (none)
theorem laws_eqInt64S.mono_l:∀ k,(∀ y0 y1 y2,LeO (laws_eqInt64S.l0 k y0 y1 y2) (laws_eqInt64S.l0 (k+1) y0 y1 y2))
 | 0=>fun _ _ _ r h=>by simp [laws_eqInt64S.l0] at h
 | k+1=>by
  have ih0:=laws_eqInt64S.mono_l k
  ·intro y0 y1 y2
   unfold laws_eqInt64S.l0
   repeat' first
   | (with_reducible exact ih0 _ _ _)
   | (with_reducible exact LeO.refl _)
   | (with_reducible exact LeO.none _)
   | (with_reducible refine LeO.ite ?_ ?_)
   | (with_reducible refine LeO.bind ?_ (fun _=>?_))
   | exact ih0 _ _ _
   | exact LeO.none _
   | refine LeO.ite ?_ ?_
   | refine LeO.bind ?_ (fun _=>?_)
theorem laws_eqInt64S.mono:∀ a0 a1 k,LeO (laws_eqInt64S.f k a0 a1) (laws_eqInt64S.f (k+1) a0 a1):=by
 intro a0 a1 k
 have ih0:=laws_eqInt64S.mono_l k
 unfold laws_eqInt64S.f
 repeat' first
   | (with_reducible exact ih0 _ _ _)
   | (with_reducible exact LeO.refl _)
   | (with_reducible exact LeO.none _)
   | (with_reducible refine LeO.ite ?_ ?_)
   | (with_reducible refine LeO.bind ?_ (fun _=>?_))
   | exact ih0 _ _ _
   | exact LeO.none _
   | refine LeO.ite ?_ ?_
   | refine LeO.bind ?_ (fun _=>?_)
set_option maxHeartbeats 8000000 in
set_option maxRecDepth 100000 in
theorem laws_eqInt64S.calls (k:Nat) (A0:Option Addr) (c0:Nat) (l0:List Int) (A1:Option Addr) (c1:Nat) (l1:List Int) (r:Bool) (w:World) (hr0:Kd.C (Kd.int .i64) w A0 l0.length l0) (hc0:l0.length≤c0) (hr1:Kd.C (Kd.int .i64) w A1 l1.length l1) (hc1:l1.length≤c1) (h:laws_eqInt64S.f k l0 l1=some r) :
  Calls Tryd.prog 25 #[.slice A0 l0.length c0,.slice A1 l1.length c1] w fun e w'=>e = .returned (.bool r)∧Drawn0 w w':=by
 have HR0:=Aside0.mk hr0
 have HC0:=Aside0.mk hc0
 clear hr0 hc0
 have HR1:=Aside0.mk hr1
 have HC1:=Aside0.mk hc1
 clear hr1 hc1
 have H:(if (l0.length:Int)=(l1.length:Int) then (laws_eqInt64S.l0 k l0 l1 0) else (none))=some r:=h
 clear h
 by_cases c3:(l0.length:Int)=(l1.length:Int)
 ·rw [if_pos c3] at H
  have c3b0:((l0.length:Int) == (l1.length:Int))=true:=beq_iff_eq.mpr c3
  have c3b1:((l0.length:Int) != (l1.length:Int))=false:=bne_eq_false_iff_eq.mpr c3
  have c3b2:(l0.length == l1.length)=true:=by first | simpa using c3 | (simp at c3 ⊢;omega)
  clear c3
  have H':=Aside0.mk H
  clear H
  go_enter Tryd.func25,Tryd.ntmps25
  go_wp2
  repeat (go_quiet (fail);try go_wp2)
  go_loopg [5] k (fun kq v5 w'=>∃ (x5_1:Int),v5 = .int .i64 x5_1∧Aside0 (laws_eqInt64S.l0 kq l0 l1 x5_1=some r)∧Aside0 (kq≤k)∧Drawn0 w w')
  case atStart=>exact ⟨(0),(z2_),H',⟨Nat.le_refl _⟩,z6_⟩
  case round =>
   clear H'
   try clear c1
   try clear c2
   try clear p2
   try clear c3
   try clear c3b0
   try clear c3b1
   try clear c3b2
   obtain ⟨x5_1,rfl,HA,HK1,⟨m1,rfl⟩⟩:=hrel
   cases gk with
   | zero=>exact absurd HA.out (by simp [laws_eqInt64S.l0])
   | succ k1 =>
    have H:=HA.out
    clear HA
    simp only [laws_eqInt64S.l0] at H
    by_cases c4:x5_1<(l0.length:Int)
    ·rw [if_pos c4] at H
     have c4b0:decide (x5_1<(l0.length:Int))=true:=decide_eq_true c4
     clear c4
     by_cases c5:0≤x5_1
     ·rw [if_pos c5] at H
      have c5b0:decide (0≤x5_1)=true:=decide_eq_true c5
      clear c5
      by_cases c6:x5_1<(l1.length:Int)
      ·rw [if_pos c6] at H
       have c6b0:decide (x5_1<(l1.length:Int))=true:=decide_eq_true c6
       clear c6
       by_cases c7:(rd l0 x5_1)=(rd l1 x5_1)
       ·rw [if_pos c7] at H
        have c7b0:((rd l0 x5_1) == (rd l1 x5_1))=true:=beq_iff_eq.mpr c7
        have c7b1:((rd l0 x5_1) != (rd l1 x5_1))=false:=bne_eq_false_iff_eq.mpr c7
        clear c7
        have H':=Aside0.mk H
        clear H
        have p633:0≤(x5_1:Int):=of_decide_eq_true (z0_)
        have q633:x5_1<(l0.length:Int):=of_decide_eq_true (z0_)
        obtain ⟨ad633,e633,hx633_0⟩:=Kd.at_int HR0.out x5_1 p633 q633
        cases e633
        replace p633:=eq_true p633
        replace q633:=eq_true q633
        have p634:0≤(x5_1:Int):=of_decide_eq_true (z0_)
        have q634:x5_1<(l1.length:Int):=of_decide_eq_true (z0_)
        obtain ⟨ad634,e634,hx634_0⟩:=Kd.at_int HR1.out x5_1 p634 q634
        cases e634
        replace p634:=eq_true p634
        replace q634:=eq_true q634
        go_wp2
        repeat (go_quiet (fail);try go_wp2)
        go_roundg k1
        case measure=>have:=HK1.out;omega
        case rel=>exact ⟨(wrap64 (x5_1+1)),(z2_),H',⟨by have:=HK1.out;omega⟩,z6_⟩
       ·rw [if_neg c7] at H
        exact absurd H (by simp)
      ·rw [if_neg c6] at H
       exact absurd H (by simp)
     ·rw [if_neg c5] at H
      exact absurd H (by simp)
    ·rw [if_neg c4] at H
     have c4b0:decide (x5_1<(l0.length:Int))=false:=decide_eq_false c4
     clear c4
     obtain rfl:=Option.some.inj H
     go_wp2
     repeat (go_quiet (fail);try go_wp2)
     go_ret
     exact ⟨z2_,z6_⟩
 ·rw [if_neg c3] at H
  exact absurd H (by simp)


/-! ### laws_markInt64S: function 28 -/
def laws_markInt64S.l0:Nat→List Int→Int→Int→Option (Int × List Int)
 | 0,_,_,_=>none
 | k+1,x0,x1,x5=>if x5<(x0.length:Int) then (if 0≤x5 then (laws_markInt64S.l0 k (x0.set (x5:Int).toNat x1) (wrap64 (x1+1)) (wrap64 (x5+1))) else (none)) else (some (x1,x0))
def laws_markInt64S.f (k:Nat) (l0:List Int) (a1:Int):Option (Int × List Int):=laws_markInt64S.l0 k l0 a1 0
theorem laws_markInt64S.mono_l:∀ k,(∀ y0 y1 y2,LeO (laws_markInt64S.l0 k y0 y1 y2) (laws_markInt64S.l0 (k+1) y0 y1 y2))
 | 0=>fun _ _ _ r h=>by simp [laws_markInt64S.l0] at h
 | k+1=>by
  have ih0:=laws_markInt64S.mono_l k
  ·intro y0 y1 y2
   unfold laws_markInt64S.l0
   repeat' first
   | (with_reducible exact ih0 _ _ _)
   | (with_reducible exact LeO.refl _)
   | (with_reducible exact LeO.none _)
   | (with_reducible refine LeO.ite ?_ ?_)
   | (with_reducible refine LeO.bind ?_ (fun _=>?_))
   | exact ih0 _ _ _
   | exact LeO.none _
   | refine LeO.ite ?_ ?_
   | refine LeO.bind ?_ (fun _=>?_)
theorem laws_markInt64S.mono:∀ a0 a1 k,LeO (laws_markInt64S.f k a0 a1) (laws_markInt64S.f (k+1) a0 a1):=by
 intro a0 a1 k
 have ih0:=laws_markInt64S.mono_l k
 unfold laws_markInt64S.f
 repeat' first
   | (with_reducible exact ih0 _ _ _)
   | (with_reducible exact LeO.refl _)
   | (with_reducible exact LeO.none _)
   | (with_reducible refine LeO.ite ?_ ?_)
   | (with_reducible refine LeO.bind ?_ (fun _=>?_))
   | exact ih0 _ _ _
   | exact LeO.none _
   | refine LeO.ite ?_ ?_
   | refine LeO.bind ?_ (fun _=>?_)
set_option maxHeartbeats 8000000 in
set_option maxRecDepth 100000 in
theorem laws_markInt64S.calls (k:Nat) (P0_:Nat→Prop) (u9000_:Value) (l0:List Int) (a1:Int) (r1:Int) (r2:List Int) (w0 w:World) (hB:Below w0.heap.size w0 w) (ho0:Kd.R (Kd.int .i64) 2 w w0.heap.size P0_ u9000_ l0) (h:laws_markInt64S.f k l0 a1=some (r1,r2)) :
  Calls Tryd.prog 28 #[u9000_,.int .i64 a1] w fun e w'=>e = .returned (.int .i64 r1)∧Kd.R (Kd.int .i64) 2 w' w0.heap.size (fun k_=>(P0_ k_∨w.heap.size≤k_)) u9000_ r2∧Below w0.heap.size w0 w'∧Kept w w' (fun k_=>P0_ k_):=by
 have HO0:=Aside0.mk (show Kd.R (Kd.int .i64) 2 w w0.heap.size (fun k_=>(P0_ k_∨w.heap.size≤k_)) u9000_ l0 from Kd.R_mono ho0 (fun k_ hk=>(.inl hk)))
 have HK:=Aside0.mk (Kept.refl w (fun k_=>P0_ k_))
 have HW0:=Aside0.mk hB.size
 have HB:=Aside0.mk hB
 clear hB
 have H:(laws_markInt64S.l0 k l0 a1 0)=some (r1,r2):=h
 clear h
 have H':=Aside0.mk H
 clear H
 go_enter Tryd.func28,Tryd.ntmps28
 go_wp2
 go_loopg [1,5] k (fun kq v1 v5 w'=>∃ (x0_1:List Int) (x1_1:Int) (x5_1:Int),v1 = .int .i64 x1_1∧v5 = .int .i64 x5_1∧Aside0 (laws_markInt64S.l0 kq x0_1 x1_1 x5_1=some (r1,r2))∧Aside0 (kq≤k)∧Aside0 (Kd.R (Kd.int .i64) 2 w' w0.heap.size (fun k_=>(P0_ k_∨w.heap.size≤k_)) u9000_ x0_1)∧Aside0 (Kept w w' (fun k_=>P0_ k_))∧Aside0 (Below w0.heap.size w0 w'))
 case atStart=>exact ⟨(l0),(a1),(0),(z2_),(z2_),H',⟨Nat.le_refl _⟩,⟨z1_ HO0.out⟩,⟨z9_ HK.out⟩,⟨z4_ HB.out⟩⟩
 case round =>
  clear H'
  try clear c2
  try clear p2
  obtain ⟨x0_1,x1_1,x5_1,rfl,rfl,HA,HK1,HO_0,HK,HB⟩:=hrel
  cases gk with
  | zero=>exact absurd HA.out (by simp [laws_markInt64S.l0])
  | succ k1 =>
   have H:=HA.out
   clear HA
   simp only [laws_markInt64S.l0] at H
   by_cases c3:x5_1<(x0_1.length:Int)
   ·rw [if_pos c3] at H
    have c3b0:decide (x5_1<(x0_1.length:Int))=true:=decide_eq_true c3
    clear c3
    by_cases c4:0≤x5_1
    ·rw [if_pos c4] at H
     have c4b0:decide (0≤x5_1)=true:=decide_eq_true c4
     clear c4
     obtain ⟨y635,hy635⟩:∃ y_:List Int,y_=(x0_1.set (x5_1:Int).toNat x1_1):=⟨_,rfl⟩
     replace H:(laws_markInt64S.l0 k1 y635 (wrap64 (x1_1+1)) (wrap64 (x5_1+1)))=some (r1,r2):=by first | (rw [hy635];with_reducible exact H) | (have H2_:=(Option.bind_some _ _).symm.trans H;rw [hy635];with_reducible exact H2_) | (have H2_:=(Option.bind_some _ _).symm.trans H;with_reducible exact H2_) | with_reducible exact H | (rw [hy635];exact H) | exact H
     have Ny635:=Aside0.mk hy635
     clear hy635
     have H':=Aside0.mk H
     clear H
     obtain ⟨Ao6,co6,eo6⟩:=Kd.R_slice HO_0.out
     subst eo6
     have p5:0≤(x5_1:Int):=of_decide_eq_true (z0_)
     have q5:(x5_1:Int)<((x0_1.length:Int):Int):=of_decide_eq_true (z0_)
     obtain ⟨go5,co5,eo5,gb5,gl5,cl5,HG5⟩:=Kd.R_form HO_0.out (by omega)
     (first | cases eo5 | (injection eo5 with ea_ en_ ec_;(first | subst ea_ | (injection ea_ with ea_;subst ea_));subst ec_;clear en_))
     have GB5:=Aside0.mk gb5
     have GG5:=Aside0.mk HG5
     clear gb5 gl5 HG5
     have HMgo5:=Aside0.mk (show (P0_ go5∨w.heap.size≤go5) from (HO_0.out.1 _ rfl))
     obtain ⟨hx5_0,hf5_0⟩:=Kd.R_celln 0 HO_0.out (x5_1:Int) p5 q5
     replace p5:=eq_true p5
     replace q5:=eq_true q5
     have HP7:=Kd.R_putg HO_0.out (x5_1:Int) x1_1
     go_wp2_with (first | ((with_reducible refine gate_store (t:=2) (p:=15) rfl ?_);refine store_event (t:=2) (p:=15) (v:=?vo_w8) (w1:=(wr.setCell ⟨go5,(x5_1:Int).toNat,none⟩ (.int .i64 x1_1))) ?hg ?ho ?hn ?hr ?_;(case ho=>rfl);(case hg=>rfl);(case hn=>rfl);(case hr=>first | (go_simp;done) | (go_simp;rfl));intro w8 hw;have hg:wr.grownBy w8 (some go5):=(by rw [hw];exact HP7.2);have hp_:Kd.R (Kd.int .i64) 2 w8 w0.heap.size (fun k_=>(P0_ k_∨w.heap.size≤k_)) (.slice (some ⟨go5,0,none⟩) x0_1.length co6) y635:=(by rw [hw,Ny635.out];exact HP7.1);clear HP7;refine as3_ (hp_) ((by rw [hw];exact below_set (HB.out) GB5.out:Below w0.heap.size w0 w8)) (Kept.of_grown (S:=(fun k_=>P0_ k_)) hg (z9_ HK.out) (fun k_ e_=>(HO_0.out.1 k_ e_))) ?_;clear HO_0 HB HK;intro HO_0 HB HK;clear hg hw hp_))
     go_roundg k1
     case measure=>have:=HK1.out;omega
     case rel=>exact ⟨(y635),(wrap64 (x1_1+1)),(wrap64 (x5_1+1)),(z2_),(z2_),H',⟨by have:=HK1.out;omega⟩,⟨z1_ HO_0.out⟩,⟨z9_ HK.out⟩,⟨z4_ HB.out⟩⟩
    ·rw [if_neg c4] at H
     exact absurd H (by simp)
   ·rw [if_neg c3] at H
    have c3b0:decide (x5_1<(x0_1.length:Int))=false:=decide_eq_false c3
    clear c3
    simp only [Option.some.injEq,Prod.mk.injEq] at H
    obtain ⟨rfl,rfl⟩:=H
    obtain ⟨Ao9,co9,eo9⟩:=Kd.R_slice HO_0.out
    subst eo9
    go_wp2
    go_ret
    exact ⟨z10_,z1_ HO_0.out,z4_ HB.out,z9_ HK.out⟩


/-! ### laws_heldInt64S: function 29 -/
def laws_heldInt64S.l0:Nat→List Int→Int→Int→Option (Int)
 | 0,_,_,_=>none
 | k+1,x0,x1,x5=>if x5<(x0.length:Int) then (if 0≤x5 then (if (rd x0 x5)=x1 then (laws_heldInt64S.l0 k x0 (wrap64 (x1+1)) (wrap64 (x5+1))) else (none)) else (none)) else (some x1)
def laws_heldInt64S.f (k:Nat) (l0:List Int) (a1:Int):Option (Int):=laws_heldInt64S.l0 k l0 a1 0
theorem laws_heldInt64S.mono_l:∀ k,(∀ y0 y1 y2,LeO (laws_heldInt64S.l0 k y0 y1 y2) (laws_heldInt64S.l0 (k+1) y0 y1 y2))
 | 0=>fun _ _ _ r h=>by simp [laws_heldInt64S.l0] at h
 | k+1=>by
  have ih0:=laws_heldInt64S.mono_l k
  ·intro y0 y1 y2
   unfold laws_heldInt64S.l0
   repeat' first
   | (with_reducible exact ih0 _ _ _)
   | (with_reducible exact LeO.refl _)
   | (with_reducible exact LeO.none _)
   | (with_reducible refine LeO.ite ?_ ?_)
   | (with_reducible refine LeO.bind ?_ (fun _=>?_))
   | exact ih0 _ _ _
   | exact LeO.none _
   | refine LeO.ite ?_ ?_
   | refine LeO.bind ?_ (fun _=>?_)
theorem laws_heldInt64S.mono:∀ a0 a1 k,LeO (laws_heldInt64S.f k a0 a1) (laws_heldInt64S.f (k+1) a0 a1):=by
 intro a0 a1 k
 have ih0:=laws_heldInt64S.mono_l k
 unfold laws_heldInt64S.f
 repeat' first
   | (with_reducible exact ih0 _ _ _)
   | (with_reducible exact LeO.refl _)
   | (with_reducible exact LeO.none _)
   | (with_reducible refine LeO.ite ?_ ?_)
   | (with_reducible refine LeO.bind ?_ (fun _=>?_))
   | exact ih0 _ _ _
   | exact LeO.none _
   | refine LeO.ite ?_ ?_
   | refine LeO.bind ?_ (fun _=>?_)
set_option maxHeartbeats 8000000 in
set_option maxRecDepth 100000 in
theorem laws_heldInt64S.calls (k:Nat) (A0:Option Addr) (c0:Nat) (l0:List Int) (a1:Int) (r:Int) (w:World) (hr0:Kd.C (Kd.int .i64) w A0 l0.length l0) (hc0:l0.length≤c0) (h:laws_heldInt64S.f k l0 a1=some r) :
  Calls Tryd.prog 29 #[.slice A0 l0.length c0,.int .i64 a1] w fun e w'=>e = .returned (.int .i64 r)∧Drawn0 w w':=by
 have HR0:=Aside0.mk hr0
 have HC0:=Aside0.mk hc0
 clear hr0 hc0
 have H:(laws_heldInt64S.l0 k l0 a1 0)=some r:=h
 clear h
 have H':=Aside0.mk H
 clear H
 go_enter Tryd.func29,Tryd.ntmps29
 go_wp2
 go_loopg [1,5] k (fun kq v1 v5 w'=>∃ (x1_1:Int) (x5_1:Int),v1 = .int .i64 x1_1∧v5 = .int .i64 x5_1∧Aside0 (laws_heldInt64S.l0 kq l0 x1_1 x5_1=some r)∧Aside0 (kq≤k)∧Drawn0 w w')
 case atStart=>exact ⟨(a1),(0),(z2_),(z2_),H',⟨Nat.le_refl _⟩,z6_⟩
 case round =>
  clear H'
  try clear c2
  try clear p2
  obtain ⟨x1_1,x5_1,rfl,rfl,HA,HK1,⟨m1,rfl⟩⟩:=hrel
  cases gk with
  | zero=>exact absurd HA.out (by simp [laws_heldInt64S.l0])
  | succ k1 =>
   have H:=HA.out
   clear HA
   simp only [laws_heldInt64S.l0] at H
   by_cases c3:x5_1<(l0.length:Int)
   ·rw [if_pos c3] at H
    have c3b0:decide (x5_1<(l0.length:Int))=true:=decide_eq_true c3
    clear c3
    by_cases c4:0≤x5_1
    ·rw [if_pos c4] at H
     have c4b0:decide (0≤x5_1)=true:=decide_eq_true c4
     clear c4
     by_cases c5:(rd l0 x5_1)=x1_1
     ·rw [if_pos c5] at H
      have c5b0:((rd l0 x5_1) == x1_1)=true:=beq_iff_eq.mpr c5
      have c5b1:((rd l0 x5_1) != x1_1)=false:=bne_eq_false_iff_eq.mpr c5
      clear c5
      have H':=Aside0.mk H
      clear H
      have p636:0≤(x5_1:Int):=of_decide_eq_true (z0_)
      have q636:x5_1<(l0.length:Int):=of_decide_eq_true (z0_)
      obtain ⟨ad636,e636,hx636_0⟩:=Kd.at_int HR0.out x5_1 p636 q636
      cases e636
      replace p636:=eq_true p636
      replace q636:=eq_true q636
      go_wp2
      go_roundg k1
      case measure=>have:=HK1.out;omega
      case rel=>exact ⟨(wrap64 (x1_1+1)),(wrap64 (x5_1+1)),(z2_),(z2_),H',⟨by have:=HK1.out;omega⟩,z6_⟩
     ·rw [if_neg c5] at H
      exact absurd H (by simp)
    ·rw [if_neg c4] at H
     exact absurd H (by simp)
   ·rw [if_neg c3] at H
    have c3b0:decide (x5_1<(l0.length:Int))=false:=decide_eq_false c3
    clear c3
    obtain rfl:=Option.some.inj H
    go_wp2
    go_ret
    exact ⟨z2_,z6_⟩

end Go.Proofs.YtelecnmflodkkaaDoor.P
