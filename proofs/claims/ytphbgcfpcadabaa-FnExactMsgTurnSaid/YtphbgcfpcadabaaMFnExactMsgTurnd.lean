/- For all messages, kinds and sets the program's MsgTurn and the reference's return the same, of its own memory, and leave what they are given. No condition. (Part 4 of 6: written by programs of this workplace and by hand, merged.) -/
import Derived.Test.YtphbgcfpcadabaaMFnExactMsgTurna
import Derived.Test.YtphbgcfpcadabaaMFnExactMsgTurnc
set_option linter.unusedVariables false
set_option linter.unusedSimpArgs false

namespace Go.Proofs.Ytphbgcfpcadabaa.P
open Go.RowKit Go.Proofs.YtphbgcfpcadabaaW.PrintWords Go.Proofs.YtphbgcfpcadabaaW.PrintLast Go.Proofs.YtphbgcfpcadabaaW.PrintMore
attribute [local go_sem] max2_int min2_int max_two min_two max_three min_three max_four min_four   -- for this text's walks alone
set_option linter.unusedVariables false
set_option linter.unusedSimpArgs false

/-! ### laws_heldMarkS: function 99 -/
def laws_heldMarkS.l0:Nat→List (S56)→Int→Int→Option (Int)
 | 0,_,_,_=>none
 | k+1,x0,x1,x5=>if x5<(x0.length:Int) then (if 0≤x5 then (if ((rd_T56 x0 x5).f0)=x1 then (if ((rd_T56 x0 x5).f1)=(wrap64 (x1+1)) then (laws_heldMarkS.l0 k x0 (wrap64 ((wrap64 (x1+1))+1)) (wrap64 (x5+1))) else (none)) else (none)) else (none)) else (some x1)
def laws_heldMarkS.f (k:Nat) (l0:List (S56)) (a1:Int):Option (Int):=laws_heldMarkS.l0 k l0 a1 0
theorem laws_heldMarkS.mono_l:∀ k,(∀ y0 y1 y2,LeO (laws_heldMarkS.l0 k y0 y1 y2) (laws_heldMarkS.l0 (k+1) y0 y1 y2))
 | 0=>fun _ _ _ r h=>by simp [laws_heldMarkS.l0] at h
 | k+1=>by
  have ih0:=laws_heldMarkS.mono_l k
  ·intro y0 y1 y2
   unfold laws_heldMarkS.l0
   repeat' first
   | (with_reducible exact ih0 _ _ _)
   | (with_reducible exact LeO.refl _)
   | (with_reducible exact LeO.none _)
   | (with_reducible refine LeO.ite ?_ ?_)
   | (with_reducible refine LeO.bind ?_ (fun _=>?_))
   | exact ih0 _ _ _
   | exact LeO.none _
   | refine LeO.ite ?_ ?_
   | refine LeO.bind ?_ (fun _=>?_)
theorem laws_heldMarkS.mono:∀ a0 a1 k,LeO (laws_heldMarkS.f k a0 a1) (laws_heldMarkS.f (k+1) a0 a1):=by
 intro a0 a1 k
 have ih0:=laws_heldMarkS.mono_l k
 unfold laws_heldMarkS.f
 repeat' first
   | (with_reducible exact ih0 _ _ _)
   | (with_reducible exact LeO.refl _)
   | (with_reducible exact LeO.none _)
   | (with_reducible refine LeO.ite ?_ ?_)
   | (with_reducible refine LeO.bind ?_ (fun _=>?_))
   | exact ih0 _ _ _
   | exact LeO.none _
   | refine LeO.ite ?_ ?_
   | refine LeO.bind ?_ (fun _=>?_)
set_option maxHeartbeats 8000000 in
set_option maxRecDepth 100000 in
theorem laws_heldMarkS.calls (k:Nat) (A0:Option Addr) (c0:Nat) (l0:List (S56)) (a1:Int) (r:Int) (w:World) (hr0:Kd.C k56 w A0 l0.length l0) (hc0:l0.length≤c0) (h:laws_heldMarkS.f k l0 a1=some r) :
  Calls Try.prog 99 #[.slice A0 l0.length c0,.int .i64 a1] w fun e w'=>e = .returned (.int .i64 r)∧Drawn0 w w':=by
 have HR0:=Aside0.mk hr0
 have HC0:=Aside0.mk hc0
 clear hr0 hc0
 have H:(laws_heldMarkS.l0 k l0 a1 0)=some r:=h
 clear h
 have H':=Aside0.mk H
 clear H
 go_enter Try.func99,Try.ntmps99
 go_wp2
 go_loopg [1,5] k (fun kq v1 v5 w'=>∃ (x1_1:Int) (x5_1:Int),v1 = .int .i64 x1_1∧v5 = .int .i64 x5_1∧Aside0 (laws_heldMarkS.l0 kq l0 x1_1 x5_1=some r)∧Aside0 (kq≤k)∧Drawn0 w w')
 case atStart=>exact ⟨(a1),(0),(z2_),(z2_),H',⟨Nat.le_refl _⟩,z10_⟩
 case round =>
  clear H'
  try clear p2
  obtain ⟨x1_1,x5_1,rfl,rfl,HA,HK1,⟨m1,rfl⟩⟩:=hrel
  cases gk with
  | zero=>exact absurd HA.out (by simp [laws_heldMarkS.l0])
  | succ k1 =>
   have H:=HA.out
   clear HA
   simp only [laws_heldMarkS.l0] at H
   by_cases c3:x5_1<(l0.length:Int)
   ·rw [if_pos c3] at H
    have c3b0:decide (x5_1<(l0.length:Int))=true:=decide_eq_true c3
    clear c3
    by_cases c4:0≤x5_1
    ·rw [if_pos c4] at H
     have c4b0:decide (0≤x5_1)=true:=decide_eq_true c4
     clear c4
     by_cases c5:((rd_T56 l0 x5_1).f0)=x1_1
     ·rw [if_pos c5] at H
      have c5b0:(((rd_T56 l0 x5_1).f0) == x1_1)=true:=beq_iff_eq.mpr c5
      have c5b1:(((rd_T56 l0 x5_1).f0) != x1_1)=false:=bne_eq_false_iff_eq.mpr c5
      clear c5
      by_cases c6:((rd_T56 l0 x5_1).f1)=(wrap64 (x1_1+1))
      ·rw [if_pos c6] at H
       have c6b0:(((rd_T56 l0 x5_1).f1) == (wrap64 (x1_1+1)))=true:=beq_iff_eq.mpr c6
       have c6b1:(((rd_T56 l0 x5_1).f1) != (wrap64 (x1_1+1)))=false:=bne_eq_false_iff_eq.mpr c6
       clear c6
       have H':=Aside0.mk H
       clear H
       have p361:0≤(x5_1:Int):=of_decide_eq_true (z1_)
       have q361:x5_1<(l0.length:Int):=of_decide_eq_true (z1_)
       obtain ⟨ad361,e361,hx361_0,hx361_1⟩:=at_T56 HR0.out x5_1 p361 q361
       cases e361
       replace p361:=eq_true p361
       replace q361:=eq_true q361
       have p362:0≤(x5_1:Int):=of_decide_eq_true (z1_)
       have q362:x5_1<(l0.length:Int):=of_decide_eq_true (z1_)
       obtain ⟨ad362,e362,hx362_0,hx362_1⟩:=at_T56 HR0.out x5_1 p362 q362
       obtain rfl:ad361=ad362:=(by injection e362)
       replace p362:=eq_true p362
       replace q362:=eq_true q362
       go_wp2
       go_roundg k1
       case measure=>have:=HK1.out;omega
       case rel=>exact ⟨(wrap64 ((wrap64 (x1_1+1))+1)),(wrap64 (x5_1+1)),(z2_),(z2_),H',⟨by have:=HK1.out;omega⟩,z10_⟩
      ·rw [if_neg c6] at H
       exact absurd H (by simp)
     ·rw [if_neg c5] at H
      exact absurd H (by simp)
    ·rw [if_neg c4] at H
     exact absurd H (by simp)
   ·rw [if_neg c3] at H
    have c3b0:decide (x5_1<(l0.length:Int))=false:=decide_eq_false c3
    clear c3
    obtain rfl:=Option.some.inj H
    go_wp2
    go_ret
    exact ⟨z2_,z10_⟩


/-! ### laws_heldSibS: function 100 -/
def laws_heldSibS.l0:Nat→List (S91)→Int→Int→Option (Int)
 | 0,_,_,_=>none
 | k+1,x0,x1,x5=>if x5<(x0.length:Int) then (if 0≤x5 then (if ((rd_T91 x0 x5).f0.f0)=x1 then (if ((rd_T91 x0 x5).f0.f1)=(wrap64 (x1+1)) then (if (((rd_T91 x0 x5).f1) != ((Int.tmod (wrap64 ((wrap64 (x1+1))+1)) 3) == 0))=true then (none) else ((laws_markText.f k (wrap64 ((wrap64 ((wrap64 (x1+1))+1))+1))).bind fun t367=>(if ((rd_T91 x0 x5).f2).toList=t367.toList then (laws_heldSibS.l0 k x0 (wrap64 ((wrap64 ((wrap64 ((wrap64 (x1+1))+1))+1))+1)) (wrap64 (x5+1))) else (none)))) else (none)) else (none)) else (none)) else (some x1)
def laws_heldSibS.f (k:Nat) (l0:List (S91)) (a1:Int):Option (Int):=laws_heldSibS.l0 k l0 a1 0
theorem laws_heldSibS.mono_l:∀ k,(∀ y0 y1 y2,LeO (laws_heldSibS.l0 k y0 y1 y2) (laws_heldSibS.l0 (k+1) y0 y1 y2))
 | 0=>fun _ _ _ r h=>by simp [laws_heldSibS.l0] at h
 | k+1=>by
  have ih0:=laws_heldSibS.mono_l k
  ·intro y0 y1 y2
   unfold laws_heldSibS.l0
   repeat' first
   | (with_reducible exact ih0 _ _ _)
   | (with_reducible exact laws_markText.mono _ _)
   | (with_reducible exact LeO.refl _)
   | (with_reducible exact LeO.none _)
   | (with_reducible refine LeO.ite ?_ ?_)
   | (with_reducible refine LeO.bind ?_ (fun _=>?_))
   | exact ih0 _ _ _
   | exact laws_markText.mono _ _
   | exact LeO.none _
   | refine LeO.ite ?_ ?_
   | refine LeO.bind ?_ (fun _=>?_)
theorem laws_heldSibS.mono:∀ a0 a1 k,LeO (laws_heldSibS.f k a0 a1) (laws_heldSibS.f (k+1) a0 a1):=by
 intro a0 a1 k
 have ih0:=laws_heldSibS.mono_l k
 unfold laws_heldSibS.f
 repeat' first
   | (with_reducible exact ih0 _ _ _)
   | (with_reducible exact laws_markText.mono _ _)
   | (with_reducible exact LeO.refl _)
   | (with_reducible exact LeO.none _)
   | (with_reducible refine LeO.ite ?_ ?_)
   | (with_reducible refine LeO.bind ?_ (fun _=>?_))
   | exact ih0 _ _ _
   | exact laws_markText.mono _ _
   | exact LeO.none _
   | refine LeO.ite ?_ ?_
   | refine LeO.bind ?_ (fun _=>?_)
def laws_heldSibS.T13:Bool × List (List Nat × List Nat):=(true,[([],[]),([],[]),([0,1],[0,1]),([2],[2]),([3],[3]),([],[]),([5],[5]),([4,6],[4,6])])
def laws_heldSibS.B13:List Nat:=[0,0,3,7,15,0,32,127]
theorem laws_heldSibS.tab13:rtab .any (opsOf Try.f100 13)=laws_heldSibS.T13:=by kernel_rfl
theorem laws_heldSibS.bits13:waitsOk laws_heldSibS.T13.2 laws_heldSibS.B13=true:=by kernel_rfl
set_option maxHeartbeats 8000000 in
set_option maxRecDepth 100000 in
theorem laws_heldSibS.calls (k:Nat) (A0:Option Addr) (c0:Nat) (l0:List (S91)) (a1:Int) (r:Int) (w:World) (hr0:Kd.C k91 w A0 l0.length l0) (hc0:l0.length≤c0) (h:laws_heldSibS.f k l0 a1=some r) :
  Calls Try.prog 100 #[.slice A0 l0.length c0,.int .i64 a1] w fun e w'=>e = .returned (.int .i64 r)∧Below w.heap.size w w':=by
 have HR0:=Aside0.mk hr0
 have HC0:=Aside0.mk hc0
 clear hr0 hc0
 have HB:=Aside0.mk (Below.refl w.heap.size w)
 have H:(laws_heldSibS.l0 k l0 a1 0)=some r:=h
 clear h
 have H':=Aside0.mk H
 clear H
 go_enter Try.func100,Try.ntmps100
 go_wp2
 go_loopg [1,5] k (fun kq v1 v5 w'=>∃ (x1_1:Int) (x5_1:Int),v1 = .int .i64 x1_1∧v5 = .int .i64 x5_1∧Aside0 (laws_heldSibS.l0 kq l0 x1_1 x5_1=some r)∧Aside0 (kq≤k)∧Aside0 (Below w.heap.size w w'))
 case atStart=>exact ⟨(a1),(0),(z2_),(z2_),H',⟨Nat.le_refl _⟩,⟨z5_ HB.out⟩⟩
 case round =>
  clear H'
  try clear c1
  try clear p2
  obtain ⟨x1_1,x5_1,rfl,rfl,HA,HK1,HB⟩:=hrel
  cases gk with
  | zero=>exact absurd HA.out (by simp [laws_heldSibS.l0])
  | succ k1 =>
   have H:=HA.out
   clear HA
   simp only [laws_heldSibS.l0] at H
   by_cases c3:x5_1<(l0.length:Int)
   ·rw [if_pos c3] at H
    have c3b0:decide (x5_1<(l0.length:Int))=true:=decide_eq_true c3
    clear c3
    by_cases c4:0≤x5_1
    ·rw [if_pos c4] at H
     have c4b0:decide (0≤x5_1)=true:=decide_eq_true c4
     clear c4
     by_cases c5:((rd_T91 l0 x5_1).f0.f0)=x1_1
     ·rw [if_pos c5] at H
      have c5b0:(((rd_T91 l0 x5_1).f0.f0) == x1_1)=true:=beq_iff_eq.mpr c5
      have c5b1:(((rd_T91 l0 x5_1).f0.f0) != x1_1)=false:=bne_eq_false_iff_eq.mpr c5
      clear c5
      by_cases c6:((rd_T91 l0 x5_1).f0.f1)=(wrap64 (x1_1+1))
      ·rw [if_pos c6] at H
       have c6b0:(((rd_T91 l0 x5_1).f0.f1) == (wrap64 (x1_1+1)))=true:=beq_iff_eq.mpr c6
       have c6b1:(((rd_T91 l0 x5_1).f0.f1) != (wrap64 (x1_1+1)))=false:=bne_eq_false_iff_eq.mpr c6
       clear c6
       by_cases c7:(((rd_T91 l0 x5_1).f1) != ((Int.tmod (wrap64 ((wrap64 (x1_1+1))+1)) 3) == 0))=true
       ·rw [if_pos c7] at H
        exact absurd H (by simp)
       ·rw [if_neg c7] at H
        have c7b0:(((rd_T91 l0 x5_1).f1) != ((Int.tmod (wrap64 ((wrap64 (x1_1+1))+1)) 3) == 0))=false:=by simpa using c7
        (try (have c7b1:decide (((rd_T91 l0 x5_1).f1)=((Int.tmod (wrap64 ((wrap64 (x1_1+1))+1)) 3) == 0))=true:=by simpa using c7))
        (try (have c7b2:(((rd_T91 l0 x5_1).f1) == ((Int.tmod (wrap64 ((wrap64 (x1_1+1))+1)) 3) == 0))=true:=by simpa using c7))
        clear c7
        replace H:=Option.bind_eq_some_iff.mp H
        obtain ⟨t367,A80,H⟩:=H
        replace H:(if ((rd_T91 l0 x5_1).f2).toList=t367.toList then (laws_heldSibS.l0 k1 l0 (wrap64 ((wrap64 ((wrap64 ((wrap64 (x1_1+1))+1))+1))+1)) (wrap64 (x5_1+1))) else (none))=some r:=H
        have A8:=Aside0.mk A80
        clear A80
        by_cases c9:((rd_T91 l0 x5_1).f2).toList=t367.toList
        ·rw [if_pos c9] at H
         have c9b0:(((rd_T91 l0 x5_1).f2).toList == t367.toList)=true:=beq_iff_eq.mpr c9
         have c9b1:(((rd_T91 l0 x5_1).f2).toList != t367.toList)=false:=bne_eq_false_iff_eq.mpr c9
         clear c9
         have H':=Aside0.mk H
         clear H
         have p363:0≤(x5_1:Int):=of_decide_eq_true (z1_)
         have q363:x5_1<(l0.length:Int):=of_decide_eq_true (z1_)
         obtain ⟨ad363,e363,hx363_0,hx363_1,hx363_2,hx363_3⟩:=at_T91 HR0.out x5_1 p363 q363
         cases e363
         replace hx363_0:=(HB.out.cell (World.block_lt_of_cell? w _ hx363_0)).trans hx363_0
         replace hx363_1:=(HB.out.cell (World.block_lt_of_cell? w _ hx363_1)).trans hx363_1
         replace hx363_2:=(HB.out.cell (World.block_lt_of_cell? w _ hx363_2)).trans hx363_2
         replace hx363_3:=(HB.out.cell (World.block_lt_of_cell? w _ hx363_3)).trans hx363_3
         replace p363:=eq_true p363
         replace q363:=eq_true q363
         have p364:0≤(x5_1:Int):=of_decide_eq_true (z1_)
         have q364:x5_1<(l0.length:Int):=of_decide_eq_true (z1_)
         obtain ⟨ad364,e364,hx364_0,hx364_1,hx364_2,hx364_3⟩:=at_T91 HR0.out x5_1 p364 q364
         obtain rfl:ad363=ad364:=(by injection e364)
         replace hx364_0:=(HB.out.cell (World.block_lt_of_cell? w _ hx364_0)).trans hx364_0
         replace hx364_1:=(HB.out.cell (World.block_lt_of_cell? w _ hx364_1)).trans hx364_1
         replace hx364_2:=(HB.out.cell (World.block_lt_of_cell? w _ hx364_2)).trans hx364_2
         replace hx364_3:=(HB.out.cell (World.block_lt_of_cell? w _ hx364_3)).trans hx364_3
         replace p364:=eq_true p364
         replace q364:=eq_true q364
         have p365:0≤(x5_1:Int):=of_decide_eq_true (z1_)
         have q365:x5_1<(l0.length:Int):=of_decide_eq_true (z1_)
         obtain ⟨ad365,e365,hx365_0,hx365_1,hx365_2,hx365_3⟩:=at_T91 HR0.out x5_1 p365 q365
         obtain rfl:ad363=ad365:=(by injection e365)
         replace hx365_0:=(HB.out.cell (World.block_lt_of_cell? w _ hx365_0)).trans hx365_0
         replace hx365_1:=(HB.out.cell (World.block_lt_of_cell? w _ hx365_1)).trans hx365_1
         replace hx365_2:=(HB.out.cell (World.block_lt_of_cell? w _ hx365_2)).trans hx365_2
         replace hx365_3:=(HB.out.cell (World.block_lt_of_cell? w _ hx365_3)).trans hx365_3
         replace p365:=eq_true p365
         replace q365:=eq_true q365
         try go_wp2
         have n0_:=Aside0.mk (below_drew1 HB.out)
         clear HB
         have HB:=n0_
         clear n0_
         have p366:0≤(x5_1:Int):=of_decide_eq_true (z1_)
         have q366:x5_1<(l0.length:Int):=of_decide_eq_true (z1_)
         obtain ⟨ad366,e366,hx366_0,hx366_1,hx366_2,hx366_3⟩:=at_T91 HR0.out x5_1 p366 q366
         have hw366_3:=hx366_3
         have hw366_2:=hx366_2
         have hw366_1:=hx366_1
         have hw366_0:=hx366_0
         obtain rfl:ad363=ad366:=(by injection e366)
         replace hx366_0:=(HB.out.cell (World.block_lt_of_cell? w _ hx366_0)).trans hx366_0
         replace hx366_1:=(HB.out.cell (World.block_lt_of_cell? w _ hx366_1)).trans hx366_1
         replace hx366_2:=(HB.out.cell (World.block_lt_of_cell? w _ hx366_2)).trans hx366_2
         replace hx366_3:=(HB.out.cell (World.block_lt_of_cell? w _ hx366_3)).trans hx366_3
         replace p366:=eq_true p366
         replace q366:=eq_true q366
         refine start_ (n:=8) (S:=fun w'=>w'.cell? (ad363.add ((x5_1).toNat*4))=some (.int .i64 ((rd_T91 l0 x5_1).f0.f0))∧w'.cell? ⟨(ad363.add ((x5_1).toNat*4)).block,(ad363.add ((x5_1).toNat*4)).off+1,none⟩=some (.int .i64 ((rd_T91 l0 x5_1).f0.f1))∧w'.cell? ⟨(ad363.add ((x5_1).toNat*4)).block,(ad363.add ((x5_1).toNat*4)).off+2,none⟩=some (.bool ((rd_T91 l0 x5_1).f1))∧w'.cell? ⟨(ad363.add ((x5_1).toNat*4)).block,(ad363.add ((x5_1).toNat*4)).off+3,none⟩=some (.string ((rd_T91 l0 x5_1).f2))) (ds:=[]) #[O,O,O,O,O,O,O,O] (by kernel_rfl) rfl rfl ⟨((HB.out.cell (World.block_lt_of_cell? w _ hw366_0)).trans hw366_0),((HB.out.cell (World.block_lt_of_cell? w _ hw366_1)).trans hw366_1),((HB.out.cell (World.block_lt_of_cell? w _ hw366_2)).trans hw366_2),((HB.out.cell (World.block_lt_of_cell? w _ hw366_3)).trans hw366_3)⟩ (fun hHeld=>?_);refine with_tabW laws_heldSibS.tab13 laws_heldSibS.bits13 (fun HT_ HW_=>?_)
         generalize wr.drew=w10 at HB hx366_0 hx366_1 hx366_2 hx366_3 hHeld ⊢
         refine pu_ 0 43 #[I,O,O,O,O,O,O,O] HT_.out ?_
         refine pu_ 1 44 #[I,I,O,O,O,O,O,O] HT_.out ?_
         refine pu_ 2 45 #[I,I,I,O,O,O,O,O] HT_.out ?_
         refine pu_ 3 46 #[I,I,I,I,O,O,O,O] HT_.out ?_
         refine pu_ 5 48 #[I,I,I,I,O,I,O,O] HT_.out ?_
         refine tk4_ 4 47 #[I,I,I,I,I,I,O,O] HT_.out HW_.out hHeld ?_
         refine o1_ 6 49 #[I,I,I,I,I,I,I,O] HT_.out (fun K hK=>?_)
         refine gs_ Try.func92 #[.int .i64 (wrap64 ((wrap64 ((wrap64 (x1_1+1))+1))+1))] ?_
         with_reducible refine (laws_markText.calls k1 (wrap64 ((wrap64 ((wrap64 (x1_1+1))+1))+1)) t367 _ A8.out).mono ?_
         rintro e w11 ⟨rfl,hb⟩
         refine ⟨_,rfl,?_⟩
         have n0_:=Aside0.mk (below_step (z5_ HB.out) hb)
         clear HB
         have HB:=n0_
         clear n0_
         (try clear hb)
         refine hK.out _ _ ⟨((HB.out.cell (World.block_lt_of_cell? w _ hw366_0)).trans hw366_0),((HB.out.cell (World.block_lt_of_cell? w _ hw366_1)).trans hw366_1),((HB.out.cell (World.block_lt_of_cell? w _ hw366_2)).trans hw366_2),((HB.out.cell (World.block_lt_of_cell? w _ hw366_3)).trans hw366_3)⟩ (fun hHeld=>?_)
         clear hK K
         refine nm_ 49 ?_
         refine pu_ 7 50 #[I,I,I,I,I,I,I,I] HT_.out ?_
         refine done_ (done_of HT_.out (by kernel_rfl)) ?_
         try go_wp2
         go_roundg k1
         case measure=>have:=HK1.out;omega
         case rel=>exact ⟨(wrap64 ((wrap64 ((wrap64 ((wrap64 (x1_1+1))+1))+1))+1)),(wrap64 (x5_1+1)),(z2_),(z2_),H',⟨by have:=HK1.out;omega⟩,⟨z5_ HB.out⟩⟩
        ·rw [if_neg c9] at H
         exact absurd H (by simp)
      ·rw [if_neg c6] at H
       exact absurd H (by simp)
     ·rw [if_neg c5] at H
      exact absurd H (by simp)
    ·rw [if_neg c4] at H
     exact absurd H (by simp)
   ·rw [if_neg c3] at H
    have c3b0:decide (x5_1<(l0.length:Int))=false:=decide_eq_false c3
    clear c3
    obtain rfl:=Option.some.inj H
    go_wp2
    go_ret
    exact ⟨z8_,z5_ HB.out⟩


/-! ### laws_heldSet: function 67 -/
def laws_heldSet.f (k:Nat) (l0_0:List (S56)) (l0_1:List (S91)) (a1:Int):Option (Int):=(laws_heldMarkS.f k l0_0 a1).bind fun t369=>(if t369<0 then (none) else ((laws_heldSibS.f k l0_1 t369).bind fun t370=>(if t370<0 then (none) else (some t370))))
theorem laws_heldSet.mono:∀ a0 a1 a2 k,LeO (laws_heldSet.f k a0 a1 a2) (laws_heldSet.f (k+1) a0 a1 a2):=by
 intro a0 a1 a2 k
 unfold laws_heldSet.f
 repeat' first
   | (with_reducible exact laws_heldMarkS.mono _ _ _)
   | (with_reducible exact laws_heldSibS.mono _ _ _)
   | (with_reducible exact LeO.refl _)
   | (with_reducible exact LeO.none _)
   | (with_reducible refine LeO.ite ?_ ?_)
   | (with_reducible refine LeO.bind ?_ (fun _=>?_))
   | exact laws_heldMarkS.mono _ _ _
   | exact laws_heldSibS.mono _ _ _
   | exact LeO.none _
   | refine LeO.ite ?_ ?_
   | refine LeO.bind ?_ (fun _=>?_)
set_option maxHeartbeats 8000000 in
set_option maxRecDepth 100000 in
theorem laws_heldSet.calls (k:Nat) (A0_0:Option Addr) (c0_0:Nat) (l0_0:List (S56)) (A0_1:Option Addr) (c0_1:Nat) (l0_1:List (S91)) (a1:Int) (r:Int) (w:World) (hr0_0:Kd.C k56 w A0_0 l0_0.length l0_0) (hc0_0:l0_0.length≤c0_0) (hr0_1:Kd.C k91 w A0_1 l0_1.length l0_1) (hc0_1:l0_1.length≤c0_1) (h:laws_heldSet.f k l0_0 l0_1 a1=some r) :
  Calls Try.prog 67 #[.agg #[.slice A0_0 l0_0.length c0_0,.slice A0_1 l0_1.length c0_1],.int .i64 a1] w fun e w'=>e = .returned (.int .i64 r)∧Below w.heap.size w w':=by
 have hu40:=Try.underlying40
 have HR0_0:=Aside0.mk hr0_0
 have HC0_0:=Aside0.mk hc0_0
 clear hr0_0 hc0_0
 have HR0_1:=Aside0.mk hr0_1
 have HC0_1:=Aside0.mk hc0_1
 clear hr0_1 hc0_1
 have HB:=Aside0.mk (Below.refl w.heap.size w)
 have H:((laws_heldMarkS.f k l0_0 a1).bind fun t369=>(if t369<0 then (none) else ((laws_heldSibS.f k l0_1 t369).bind fun t370=>(if t370<0 then (none) else (some t370)))))=some r:=h
 clear h
 replace H:=Option.bind_eq_some_iff.mp H
 obtain ⟨t369,A30,H⟩:=H
 replace H:(if t369<0 then (none) else ((laws_heldSibS.f k l0_1 t369).bind fun t370=>(if t370<0 then (none) else (some t370))))=some r:=H
 have A3:=Aside0.mk A30
 clear A30
 by_cases c4:t369<0
 ·rw [if_pos c4] at H
  exact absurd H (by simp)
 ·rw [if_neg c4] at H
  have c4b0:decide (t369<0)=false:=decide_eq_false c4
  clear c4
  replace H:=Option.bind_eq_some_iff.mp H
  obtain ⟨t370,A50,H⟩:=H
  replace H:(if t370<0 then (none) else (some t370))=some r:=H
  have A5:=Aside0.mk A50
  clear A50
  by_cases c6:t370<0
  ·rw [if_pos c6] at H
   exact absurd H (by simp)
  ·rw [if_neg c6] at H
   have c6b0:decide (t370<0)=false:=decide_eq_false c6
   clear c6
   obtain rfl:=Option.some.inj H
   go_enter Try.func67,Try.ntmps67
   go_wp2_with (first | ((with_reducible refine gd_ 2 ?_);refine be_ 2 #[.slice A0_0 l0_0.length c0_0,.slice A0_1 l0_1.length c0_1] 40 ?_;intro gb368 hg w7 hbox hb;refine as4_ (below_step (z5_ HB.out) hb) (hbox) ((z7_ HB.out:w.heap.size≤gb368)) ((z7_ HB.out:w.heap.size≤gb368)) ?_;clear HB;intro HB BK368 GW368 GE368;clear hb hbox hg;have ⟨hcz8_0,hcz8_1,hfz8_0,hfz8_1⟩:=cz2_ BK368.out) | ((with_reducible refine gc_ 99 ?_);refine gl_ (some 8) Try.func99 #[.slice A0_0 l0_0.length c0_0,.int .i64 a1] ?_;(with_reducible refine (laws_heldMarkS.calls k _ _ l0_0 a1 t369 _ ?s1 ?s2 A3.out).mono ?_);(case s1=>repeat (first | exact (Kd.C_below HR0_0.out HB.out) | (with_reducible refine Kd.C_alloc ?_ _) | (with_reducible refine Kd.C_drewN ?_ _) | (with_reducible refine Kd.C_drew ?_)));(case s2=>exact HC0_0.out);rintro e w' ⟨rfl,⟨nd,rfl⟩⟩;refine ⟨_,rfl,?_⟩) | ((with_reducible refine gc_ 100 ?_);refine gl_ (some 14) Try.func100 #[.slice A0_1 l0_1.length c0_1,.int .i64 t369] ?_;(with_reducible refine (laws_heldSibS.calls k _ _ l0_1 t369 t370 _ ?s1 ?s2 A5.out).mono ?_);(case s1=>repeat (first | exact (Kd.C_below HR0_1.out (z4_ HB.out GE368.out)) | (with_reducible refine Kd.C_alloc ?_ _) | (with_reducible refine Kd.C_drewN ?_ _) | (with_reducible refine Kd.C_drew ?_)));(case s2=>exact HC0_1.out);rintro e w9 ⟨rfl,hb⟩;refine ⟨_,rfl,?_⟩;refine as2_ (blkB_ BK368.out hb) (below_step (z4_ HB.out GE368.out) hb) ?_;clear BK368 HB;intro BK368 HB;(try clear hb)))
   go_ret
   exact ⟨z8_,z4_ HB.out GE368.out⟩


/-! ### laws_heldMsg: function 59 -/
def laws_heldMsg.f (k:Nat) (a0_0:Int) (a0_1:Int) (a0_2:Int) (a0_3:Int) (a0_4:ByteArray) (a0_5:Int) (l0_6:List (S56)) (l0_7:List (S91)) (a1:Int):Option (Int):=(laws_heldSet.f k l0_6 l0_7 a1).bind fun t372=>(if t372<0 then (none) else (some t372))
theorem laws_heldMsg.mono:∀ a0 a1 a2 a3 a4 a5 a6 a7 a8 k,LeO (laws_heldMsg.f k a0 a1 a2 a3 a4 a5 a6 a7 a8) (laws_heldMsg.f (k+1) a0 a1 a2 a3 a4 a5 a6 a7 a8):=by
 intro a0 a1 a2 a3 a4 a5 a6 a7 a8 k
 unfold laws_heldMsg.f
 repeat' first
   | (with_reducible exact laws_heldSet.mono _ _ _ _)
   | (with_reducible exact LeO.refl _)
   | (with_reducible exact LeO.none _)
   | (with_reducible refine LeO.ite ?_ ?_)
   | (with_reducible refine LeO.bind ?_ (fun _=>?_))
   | exact laws_heldSet.mono _ _ _ _
   | exact LeO.none _
   | refine LeO.ite ?_ ?_
   | refine LeO.bind ?_ (fun _=>?_)
set_option maxHeartbeats 8000000 in
set_option maxRecDepth 100000 in
theorem laws_heldMsg.calls (k:Nat) (a0_0:Int) (a0_1:Int) (a0_2:Int) (a0_3:Int) (a0_4:ByteArray) (a0_5:Int) (A0_6:Option Addr) (c0_6:Nat) (l0_6:List (S56)) (A0_7:Option Addr) (c0_7:Nat) (l0_7:List (S91)) (a1:Int) (r:Int) (w:World) (hr0_6:Kd.C k56 w A0_6 l0_6.length l0_6) (hc0_6:l0_6.length≤c0_6) (hr0_7:Kd.C k91 w A0_7 l0_7.length l0_7) (hc0_7:l0_7.length≤c0_7) (h:laws_heldMsg.f k a0_0 a0_1 a0_2 a0_3 a0_4 a0_5 l0_6 l0_7 a1=some r) :
  Calls Try.prog 59 #[.agg #[.int .i64 a0_0,.int .i64 a0_1,.int .i64 a0_2,.int .i64 a0_3,.string a0_4,.int .i64 a0_5,.slice A0_6 l0_6.length c0_6,.slice A0_7 l0_7.length c0_7],.int .i64 a1] w fun e w'=>e = .returned (.int .i64 r)∧Below w.heap.size w w':=by
 have hu42:=Try.underlying42
 have hu40:=Try.underlying40
 have HR0_6:=Aside0.mk hr0_6
 have HC0_6:=Aside0.mk hc0_6
 clear hr0_6 hc0_6
 have HR0_7:=Aside0.mk hr0_7
 have HC0_7:=Aside0.mk hc0_7
 clear hr0_7 hc0_7
 have HB:=Aside0.mk (Below.refl w.heap.size w)
 have H:((laws_heldSet.f k l0_6 l0_7 a1).bind fun t372=>(if t372<0 then (none) else (some t372)))=some r:=h
 clear h
 replace H:=Option.bind_eq_some_iff.mp H
 obtain ⟨t372,A30,H⟩:=H
 replace H:(if t372<0 then (none) else (some t372))=some r:=H
 have A3:=Aside0.mk A30
 clear A30
 by_cases c4:t372<0
 ·rw [if_pos c4] at H
  exact absurd H (by simp)
 ·rw [if_neg c4] at H
  have c4b0:decide (t372<0)=false:=decide_eq_false c4
  clear c4
  obtain rfl:=Option.some.inj H
  go_enter Try.func59,Try.ntmps59
  go_wp2_with (first | ((with_reducible refine gd_ 2 ?_);refine be_ 2 #[.int .i64 a0_0,.int .i64 a0_1,.int .i64 a0_2,.int .i64 a0_3,.string a0_4,.int .i64 a0_5,.slice A0_6 l0_6.length c0_6,.slice A0_7 l0_7.length c0_7] 42 ?_;intro gb371 hg w5 hbox hb;refine as4_ (below_step (z5_ HB.out) hb) (hbox) ((z7_ HB.out:w.heap.size≤gb371)) ((z7_ HB.out:w.heap.size≤gb371)) ?_;clear HB;intro HB BK371 GW371 GE371;clear hb hbox hg;have ⟨hcz6_0,hcz6_1,hcz6_2,hcz6_3,hcz6_4,hcz6_5,hcz6_6,hcz6_7,hfz6_0,hfz6_1,hfz6_2,hfz6_3,hfz6_4,hfz6_5,hfz6_6,hfz6_7⟩:=cz8_ BK371.out) | ((with_reducible refine gc_ 67 ?_);refine gl_ (some 8) Try.func67 #[.agg #[.slice A0_6 l0_6.length c0_6,.slice A0_7 l0_7.length c0_7],.int .i64 a1] ?_;(with_reducible refine (laws_heldSet.calls k _ _ l0_6 _ _ l0_7 a1 t372 _ ?s1 ?s2 ?s3 ?s4 A3.out).mono ?_);(case s1=>repeat (first | exact (Kd.C_below HR0_6.out HB.out) | (with_reducible refine Kd.C_alloc ?_ _) | (with_reducible refine Kd.C_drewN ?_ _) | (with_reducible refine Kd.C_drew ?_)));(case s2=>exact HC0_6.out);(case s3=>repeat (first | exact (Kd.C_below HR0_7.out HB.out) | (with_reducible refine Kd.C_alloc ?_ _) | (with_reducible refine Kd.C_drewN ?_ _) | (with_reducible refine Kd.C_drew ?_)));(case s4=>exact HC0_7.out);rintro e w7 ⟨rfl,hb⟩;refine ⟨_,rfl,?_⟩;refine as2_ (blkB_ BK371.out hb) (below_step (z4_ HB.out GE371.out) hb) ?_;clear BK371 HB;intro BK371 HB;(try clear hb)))
  go_ret
  exact ⟨z8_,z4_ HB.out GE371.out⟩


/-! ### laws_heldMsgOut: function 23 -/
def laws_heldMsgOut.f (k:Nat) (a0_0:Int) (a0_1:Int) (a0_2:Int) (a0_3:Int) (a0_4:ByteArray) (a0_5:Int) (l0_6:List (S56)) (l0_7:List (S91)) (a0_8:Int) (a1:Int):Option (Int):=(laws_heldMsg.f k a0_0 a0_1 a0_2 a0_3 a0_4 a0_5 l0_6 l0_7 a1).bind fun t374=>(if t374<0 then (none) else (some t374))
theorem laws_heldMsgOut.mono:∀ a0 a1 a2 a3 a4 a5 a6 a7 a8 a9 k,LeO (laws_heldMsgOut.f k a0 a1 a2 a3 a4 a5 a6 a7 a8 a9) (laws_heldMsgOut.f (k+1) a0 a1 a2 a3 a4 a5 a6 a7 a8 a9):=by
 intro a0 a1 a2 a3 a4 a5 a6 a7 a8 a9 k
 unfold laws_heldMsgOut.f
 repeat' first
   | (with_reducible exact laws_heldMsg.mono _ _ _ _ _ _ _ _ _ _)
   | (with_reducible exact LeO.refl _)
   | (with_reducible exact LeO.none _)
   | (with_reducible refine LeO.ite ?_ ?_)
   | (with_reducible refine LeO.bind ?_ (fun _=>?_))
   | exact laws_heldMsg.mono _ _ _ _ _ _ _ _ _ _
   | exact LeO.none _
   | refine LeO.ite ?_ ?_
   | refine LeO.bind ?_ (fun _=>?_)
set_option maxHeartbeats 8000000 in
set_option maxRecDepth 100000 in
theorem laws_heldMsgOut.calls (k:Nat) (a0_0:Int) (a0_1:Int) (a0_2:Int) (a0_3:Int) (a0_4:ByteArray) (a0_5:Int) (A0_6:Option Addr) (c0_6:Nat) (l0_6:List (S56)) (A0_7:Option Addr) (c0_7:Nat) (l0_7:List (S91)) (a0_8:Int) (a1:Int) (r:Int) (w:World) (hr0_6:Kd.C k56 w A0_6 l0_6.length l0_6) (hc0_6:l0_6.length≤c0_6) (hr0_7:Kd.C k91 w A0_7 l0_7.length l0_7) (hc0_7:l0_7.length≤c0_7) (h:laws_heldMsgOut.f k a0_0 a0_1 a0_2 a0_3 a0_4 a0_5 l0_6 l0_7 a0_8 a1=some r) :
  Calls Try.prog 23 #[.agg #[.int .i64 a0_0,.int .i64 a0_1,.int .i64 a0_2,.int .i64 a0_3,.string a0_4,.int .i64 a0_5,.slice A0_6 l0_6.length c0_6,.slice A0_7 l0_7.length c0_7,.int .i64 a0_8],.int .i64 a1] w fun e w'=>e = .returned (.int .i64 r)∧Below w.heap.size w w':=by
 have hu44:=Try.underlying44
 have hu42:=Try.underlying42
 have HR0_6:=Aside0.mk hr0_6
 have HC0_6:=Aside0.mk hc0_6
 clear hr0_6 hc0_6
 have HR0_7:=Aside0.mk hr0_7
 have HC0_7:=Aside0.mk hc0_7
 clear hr0_7 hc0_7
 have HB:=Aside0.mk (Below.refl w.heap.size w)
 have H:((laws_heldMsg.f k a0_0 a0_1 a0_2 a0_3 a0_4 a0_5 l0_6 l0_7 a1).bind fun t374=>(if t374<0 then (none) else (some t374)))=some r:=h
 clear h
 replace H:=Option.bind_eq_some_iff.mp H
 obtain ⟨t374,A30,H⟩:=H
 replace H:(if t374<0 then (none) else (some t374))=some r:=H
 have A3:=Aside0.mk A30
 clear A30
 by_cases c4:t374<0
 ·rw [if_pos c4] at H
  exact absurd H (by simp)
 ·rw [if_neg c4] at H
  have c4b0:decide (t374<0)=false:=decide_eq_false c4
  clear c4
  obtain rfl:=Option.some.inj H
  go_enter Try.func23,Try.ntmps23
  go_wp2_with (first | ((with_reducible refine gd_ 2 ?_);refine be_ 2 #[.int .i64 a0_0,.int .i64 a0_1,.int .i64 a0_2,.int .i64 a0_3,.string a0_4,.int .i64 a0_5,.slice A0_6 l0_6.length c0_6,.slice A0_7 l0_7.length c0_7,.int .i64 a0_8] 44 ?_;intro gb373 hg w5 hbox hb;refine as4_ (below_step (z5_ HB.out) hb) (hbox) ((z7_ HB.out:w.heap.size≤gb373)) ((z7_ HB.out:w.heap.size≤gb373)) ?_;clear HB;intro HB BK373 GW373 GE373;clear hb hbox hg;have ⟨hcz6_0,hcz6_1,hcz6_2,hcz6_3,hcz6_4,hcz6_5,hcz6_6,hcz6_7,hcz6_8,hfz6_0,hfz6_1,hfz6_2,hfz6_3,hfz6_4,hfz6_5,hfz6_6,hfz6_7,hfz6_8⟩:=cz9_ BK373.out) | ((with_reducible refine gc_ 59 ?_);refine gl_ (some 8) Try.func59 #[.agg #[.int .i64 a0_0,.int .i64 a0_1,.int .i64 a0_2,.int .i64 a0_3,.string a0_4,.int .i64 a0_5,.slice A0_6 l0_6.length c0_6,.slice A0_7 l0_7.length c0_7],.int .i64 a1] ?_;(with_reducible refine (laws_heldMsg.calls k a0_0 a0_1 a0_2 a0_3 a0_4 a0_5 _ _ l0_6 _ _ l0_7 a1 t374 _ ?s1 ?s2 ?s3 ?s4 A3.out).mono ?_);(case s1=>repeat (first | exact (Kd.C_below HR0_6.out HB.out) | (with_reducible refine Kd.C_alloc ?_ _) | (with_reducible refine Kd.C_drewN ?_ _) | (with_reducible refine Kd.C_drew ?_)));(case s2=>exact HC0_6.out);(case s3=>repeat (first | exact (Kd.C_below HR0_7.out HB.out) | (with_reducible refine Kd.C_alloc ?_ _) | (with_reducible refine Kd.C_drewN ?_ _) | (with_reducible refine Kd.C_drew ?_)));(case s4=>exact HC0_7.out);rintro e w7 ⟨rfl,hb⟩;refine ⟨_,rfl,?_⟩;refine as2_ (blkB_ BK373.out hb) (below_step (z4_ HB.out GE373.out) hb) ?_;clear BK373 HB;intro BK373 HB;(try clear hb)))
  go_ret
  exact ⟨z8_,z4_ HB.out GE373.out⟩

end Go.Proofs.Ytphbgcfpcadabaa.P
