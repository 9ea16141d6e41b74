/- A drawn ring with one more node: every key goes round the other nodes as before; of the first two owners none is new but the new node; and the program's RingMore, Newcomers are the reference's. No condition. (Part 2 of 5: written by programs of this workplace and by hand, merged.) -/
import Derived.Test.YtelecnmflodkkaaDoorMFnMorea
set_option linter.unusedVariables false
set_option linter.unusedSimpArgs false
set_option maxHeartbeats 8000000
set_option maxRecDepth 100000

namespace Go.Proofs.YtelecnmflodkkaaDoor.P
open Go.RowKit Go.Proofs.YtelecnmflodkkaaDoorW.PrintWords Go.Proofs.YtelecnmflodkkaaDoorW.PrintLast Go.Proofs.YtelecnmflodkkaaDoorW.PrintMore
attribute [local go_sem] max2_int min2_int max_two min_two max_three min_three max_four min_four   -- for this text's walks alone
set_option linter.unusedVariables false
set_option linter.unusedSimpArgs false

/-! ### Y2: function 122 -/
mutual
def Y2.l0:Nat→List (S77)→Int→Int→Int→Option ((List (S77)))
 | 0,_,_,_,_=>none
 | k+1,x0,x1,x2,x8=>if x8<x2 then (Y2.l1 k x0 x1 x2 x8 x8) else (some x0)
def Y2.l1:Nat→List (S77)→Int→Int→Int→Int→Option ((List (S77)))
 | 0,_,_,_,_,_=>none
 | k+1,x0,x1,x2,x8,x9=>if x9>x1 then (if 0≤x9 then (if x9<(x0.length:Int) then (if 0≤(wrap64 (x9-1)) then (if (wrap64 (x9-1))<(x0.length:Int) then ((Y30.f k ((rd_T77 x0 x9).f0) ((rd_T77 x0 x9).f1) ((rd_T77 x0 (wrap64 (x9-1))).f0) ((rd_T77 x0 (wrap64 (x9-1))).f1)).bind fun t162=>(Y2.j2 k x0 x1 x2 x8 x9 (decide (t162<0)))) else (none)) else (none)) else (none)) else (none)) else (Y2.j2 k x0 x1 x2 x8 x9 false)
def Y2.j2:Nat→List (S77)→Int→Int→Int→Int→Bool→Option ((List (S77)))
 | 0,_,_,_,_,_,_=>none
 | k+1,x0,x1,x2,x8,x9,x34=>if x34=true then (if 0≤(wrap64 (x9-1)) then (if (wrap64 (x9-1))<(x0.length:Int) then (if 0≤x9 then (if x9<(x0.length:Int) then (Y2.l1 k ((x0.set (x9:Int).toNat (⟨(rd_T77 x0 (wrap64 (x9-1))).f0,(rd_T77 x0 (wrap64 (x9-1))).f1⟩:S77)).set ((wrap64 (x9-1)):Int).toNat (⟨(rd_T77 x0 x9).f0,(rd_T77 x0 x9).f1⟩:S77)) x1 x2 x8 (wrap64 (x9-1))) else (none)) else (none)) else (none)) else (none)) else (Y2.l0 k x0 x1 x2 (wrap64 (x8+1)))
end
def Y2.f (k:Nat) (l0:List (S77)) (a1:Int) (a2:Int)  : Option ((List (S77))):=Y2.l0 k l0 a1 a2 (wrap64 (a1+1))
theorem Y2.mono_l:∀ k,(∀ y0 y1 y2 y3,LeO (Y2.l0 k y0 y1 y2 y3) (Y2.l0 (k+1) y0 y1 y2 y3))∧(∀ y0 y1 y2 y3 y4,LeO (Y2.l1 k y0 y1 y2 y3 y4) (Y2.l1 (k+1) y0 y1 y2 y3 y4))∧(∀ y0 y1 y2 y3 y4 y5,LeO (Y2.j2 k y0 y1 y2 y3 y4 y5) (Y2.j2 (k+1) y0 y1 y2 y3 y4 y5))
 | 0=>by refine ⟨?_,?_,?_⟩ <;> intros <;> exact LeO.none _
 | k+1=>by
  obtain ⟨ih0,ih1,ih2⟩:=Y2.mono_l k
  have m0:=@Y30.mono
  refine ⟨?_,?_,?_⟩
  ·intros
   unfold Y2.l0
   exact mO
  ·intros
   unfold Y2.l1
   exact mO
  ·intros
   unfold Y2.j2
   exact mO
theorem Y2.mono:∀ a0 a1 a2 k,LeO (Y2.f k a0 a1 a2) (Y2.f (k+1) a0 a1 a2):=by
 intro a0 a1 a2 k
 have m0:=@Y30.mono
 obtain ⟨ih0,ih1,ih2⟩:=Y2.mono_l k
 unfold Y2.f
 exact mO
def Y2.T4:Bool × List (List Nat × List Nat):=(true,[([],[]),([],[]),([0,1],[0,1]),([2],[2]),([3],[3]),([3],[3]),([3],[3]),([5,6,3],[3,5,6]),([7,3],[3,7]),([3],[3]),([3],[3]),([10,3],[3,10]),([9,11,3],[3,9,11]),([12,3],[3,12]),([4,8,13,3,3],[3,4,8,13]),([14,3],[3,14]),([3,15],[3,15])])
def Y2.B4:List Nat:=[0,0,3,7,15,15,15,111,239,15,15,1039,3599,7695,16383,32767,65535]
theorem Y2.tab4:rtab .any (opsOf Tryd.f122 4)=Y2.T4:=by kernel_rfl
theorem Y2.bits4:waitsOk Y2.T4.2 Y2.B4=true:=by kernel_rfl
def Y2.T6:Bool × List (List Nat × List Nat):=(true,[([],[]),([],[]),([],[]),([],[]),([3],[3]),([],[]),([],[]),([6],[6]),([5,7],[5,7]),([8],[8]),([],[]),([],[]),([10,11],[10,11]),([12],[12]),([0,1,0,1,5,6,7,8,9,13],[0,1]),([14,9,0,1,5,6,7,8,9,13],[9,14]),([2,4,0,1,2,3,4,5,6,7,8,9,10,11,12,13,14,15],[2,4]),([16,13,15,0,1,2,3,4,5,6,7,8,9,10,11,12,13,14,15],[13,16])])
def Y2.B6:List Nat:=[0,0,0,0,8,0,0,64,224,480,0,0,3072,7168,16355,32739,65535,131071]
theorem Y2.tab6:rtab .any (opsOf Tryd.f122 6)=Y2.T6:=by kernel_rfl
theorem Y2.bits6:waitsOk Y2.T6.2 Y2.B6=true:=by kernel_rfl
abbrev Y2.q0:Array Bool:=#[O,O,O,O,O,O,O,O,O,O,O,O,O,O,O,O,O]
abbrev Y2.q1:Array Bool:=#[I,O,O,O,O,O,O,O,O,O,O,O,O,O,O,O,O]
abbrev Y2.q2:Array Bool:=#[I,I,O,O,O,O,O,O,O,O,O,O,O,O,O,O,O]
abbrev Y2.q3:Array Bool:=#[I,I,I,O,O,O,O,O,O,O,O,O,O,O,O,O,O]
abbrev Y2.q4:Array Bool:=#[I,I,I,I,O,O,O,O,O,O,O,O,O,O,O,O,O]
abbrev Y2.q5:Array Bool:=#[I,I,I,I,I,O,O,O,O,O,O,O,O,O,O,O,O]
abbrev Y2.q6:Array Bool:=#[I,I,I,I,I,I,O,O,O,O,O,O,O,O,O,O,O]
abbrev Y2.q7:Array Bool:=#[I,I,I,I,I,I,I,O,O,O,O,O,O,O,O,O,O]
abbrev Y2.q8:Array Bool:=#[I,I,I,I,I,I,I,I,O,O,O,O,O,O,O,O,O]
abbrev Y2.q9:Array Bool:=#[I,I,I,I,I,I,I,I,I,I,I,I,I,O,O,O,O]
abbrev Y2.q10:Array Bool:=#[I,I,I,I,I,I,I,I,I,I,I,I,I,I,O,O,O]
abbrev Y2.q11:Array Bool:=#[I,I,I,I,I,I,I,I,I,I,I,I,I,I,I,O,O]
abbrev Y2.q12:Array Bool:=#[I,I,I,I,I,I,I,I,I,I,I,I,I,I,I,I,O]
abbrev Y2.q13:Array Bool:=#[I,I,I,I,I,I,I,I,I,I,I,I,I,I,I,I,I]
theorem Y2.calls (k:Nat) (P0_:Nat→Prop) (u9000_:Value) (l0:List (S77)) (a1:Int) (a2:Int)  (r:List (S77)) (w0 w:World) (hB:Below w0.heap.size w0 w) (ho0:Kd.R k77 77 w w0.heap.size P0_ u9000_ l0) (h:Y2.f k l0 a1 a2=some r) :
  Calls Tryd.prog 122 #[u9000_,.int .i64 a1,.int .i64 a2,.func (.func 78) #[] #[]] w fun e w'=>e = .returned (.tuple #[])∧Kd.R k77 77 w' w0.heap.size (fun k_=>(P0_ k_∨w.heap.size≤k_)) u9000_ r∧Below w0.heap.size w0 w'∧Kept w w' (fun k_=>P0_ k_):=by
 have hu77:=Tryd.underlying77
 have HO0:=aM (show Kd.R k77 77 w w0.heap.size (fun k_=>(P0_ k_∨w.heap.size≤k_)) u9000_ l0 from Kd.R_mono ho0 (fun k_ hk=>(.inl hk)))
 have HK:=aM (Kept.refl w (fun k_=>P0_ k_))
 have HW0:=aM hB.size
 have HB:=aM hB
 clear hB
 have H:(Y2.l0 k l0 a1 a2 (wrap64 (a1+1)))=some r:=h
 clear h
 have H':=aM H
 clear H
 go_enter Tryd.func122,Tryd.ntmps122
 go_wp2
 go_loopg [8] k (fun kq v8 w'=>∃ (x0_1:List (S77)) (x8_1:Int),v8 = .int .i64 x8_1∧Aside0 (Y2.l0 kq x0_1 a1 a2 x8_1=some r)∧Aside0 (kq≤k)∧Aside0 (Kd.R k77 77 w' w0.heap.size (fun k_=>(P0_ k_∨w.heap.size≤k_)) u9000_ x0_1)∧Aside0 (Kept w w' (fun k_=>P0_ k_))∧Aside0 (Below w0.heap.size w0 w'))
 case atStart=>exact ⟨(l0),(wrap64 (a1+1)),(z2_),H',⟨Nat.le_refl _⟩,⟨z1_ HO0.out⟩,⟨z10_ HK.out⟩,⟨z5_ HB.out⟩⟩
 case round =>
  clear H'
  try clear p2
  obtain ⟨x0_1,x8_1,rfl,HA,HK1,HO_0,HK,HB⟩:=hrel
  cases gk with
  | zero=>exact absurd HA.out (by simp [Y2.l0])
  | succ k1 =>
   have H:=HA.out
   clear HA
   simp only [Y2.l0] at H
   by_cases c5:x8_1<a2
   ·rw [if_pos c5] at H
    have c5b0:decide (x8_1<a2)=true:=dE c5
    clear c5
    have H':=aM H
    clear H
    go_wp2
    go_loopg [9] k1 (fun kq v9 w'=>∃ (x0_2:List (S77)) (x9_2:Int),v9 = .int .i64 x9_2∧Aside0 (Y2.l1 kq x0_2 a1 a2 x8_1 x9_2=some r)∧Aside0 (kq≤k1)∧Aside0 (Kd.R k77 77 w' w0.heap.size (fun k_=>(P0_ k_∨w.heap.size≤k_)) u9000_ x0_2)∧Aside0 (Kept w w' (fun k_=>P0_ k_))∧Aside0 (Below w0.heap.size w0 w'))
    case atStart=>exact ⟨(x0_1),(x8_1),(z2_),H',⟨Nat.le_refl _⟩,⟨z1_ HO_0.out⟩,⟨z10_ HK.out⟩,⟨z5_ HB.out⟩⟩
    case round =>
     clear H'
     try clear p2
     try clear c5
     try clear c5b0
     try clear p2
     obtain ⟨x0_2,x9_2,rfl,HA,HK2,HO_0,HK,HB⟩:=hrel
     cases gk with
     | zero=>exact absurd HA.out (by simp [Y2.l1])
     | succ k2 =>
      have H:=HA.out
      clear HA
      simp only [Y2.l1] at H
      have HC6:=aM H
      clear H
      go_upto_region 4 with (fail)
      go_cut [34] (fun v34 wc=>∃ (kq:Nat) (x34_5:Bool),v34 = .bool x34_5∧Aside0 (Y2.j2 kq x0_2 a1 a2 x8_1 x9_2 x34_5=some r)∧Aside0 (kq≤k2)∧Aside0 (Kd.R k77 77 wc w0.heap.size (fun k_=>(P0_ k_∨w.heap.size≤k_)) u9000_ x0_2)∧Aside0 (Kept w wc (fun k_=>P0_ k_))∧Aside0 (Below w0.heap.size w0 wc))
      case first =>
       have H:=HC6.out
       clear HC6
       by_cases c7:x9_2>a1
       ·rw [if_pos c7] at H
        have c7b0:decide (a1<x9_2)=true:=dE c7
        clear c7
        (first | rw [c7b0] | (simp only [i64_w,i32_w];rw [c7b0]) | skip)
        by_cases c8:0≤x9_2
        ·rw [if_pos c8] at H
         have c8b0:decide (0≤x9_2)=true:=dE c8
         clear c8
         by_cases c9:x9_2<(x0_2.length:Int)
         ·rw [if_pos c9] at H
          have c9b0:decide (x9_2<(x0_2.length:Int))=true:=dE c9
          clear c9
          obtain ⟨ji10,hji10⟩:∃ j_:Int,(wrap64 (x9_2-1))=j_:=⟨_,rfl⟩
          replace H:(if 0≤(ji10) then (if (ji10)<(x0_2.length:Int) then ((Y30.f k2 ((rd_T77 x0_2 x9_2).f0) ((rd_T77 x0_2 x9_2).f1) ((rd_T77 x0_2 (ji10)).f0) ((rd_T77 x0_2 (ji10)).f1)).bind fun t162=>(Y2.j2 k2 x0_2 a1 a2 x8_1 x9_2 (decide (t162<0)))) else (none)) else (none))=some r:=by first | (rw [hji10] at H;exact H) | (simp only [hji10] at H ⊢;exact H)
          have hji10w:(IntKind.i64.wrap (x9_2-1))=ji10:=(i64_w _).trans hji10
          by_cases c11:0≤(ji10)
          ·rw [if_pos c11] at H
           have c11b0:decide (0≤(ji10))=true:=dE c11
           clear c11
           by_cases c12:(ji10)<(x0_2.length:Int)
           ·rw [if_pos c12] at H
            have c12b0:decide ((ji10)<(x0_2.length:Int))=true:=dE c12
            clear c12
            replace H:=bS H
            obtain ⟨t162,A130,H⟩:=H
            replace H:(Y2.j2 k2 x0_2 a1 a2 x8_1 x9_2 (decide (t162<0)))=some r:=H
            have A13:=aM A130
            clear A130
            have H':=aM H
            clear H
            try go_wp2
            have n0_:=aM (Kd.R_drew HO_0.out)
            have n1_:=aM (Kept.drew HK.out)
            have n2_:=aM (below_drew1 HB.out)
            clear HO_0
            clear HK
            clear HB
            have HO_0:=n0_
            have HK:=n1_
            have HB:=n2_
            clear n0_ n1_ n2_
            obtain ⟨Ao15,co15,eo15⟩:=Kd.R_slice HO_0.out
            (first | subst eo15 | (injection eo15 with f1_ f2_ f3_;have f4_:=f1_.symm;have f5_:=f3_.symm;clear f1_ f2_ f3_;subst f4_;subst f5_))
            have p160:0≤(x9_2:Int):=dT (z0_)
            have q160:x9_2<(x0_2.length:Int):=dT (z0_)
            obtain ⟨ad160,e160,hx160_0,hx160_1⟩:=at_T77 (Kd.R_reads' HO_0.out).2.2 x9_2 p160 q160
            cases e160
            replace p160:=eq_true p160
            replace q160:=eq_true q160
            have p161:0≤((ji10):Int):=dT (z0_)
            have q161:(ji10)<(x0_2.length:Int):=dT (z0_)
            obtain ⟨ad161,e161,hx161_0,hx161_1⟩:=at_T77 (Kd.R_reads' HO_0.out).2.2 (ji10) p161 q161
            obtain rfl:ad160=ad161:=(by injection e161)
            replace p161:=eq_true p161
            replace q161:=eq_true q161
            refine start_ (n:=17) (S:=fun w'=>w'.cell? (ad160.add ((x9_2).toNat*2))=some (.int .i64 ((rd_T77 x0_2 x9_2).f0))∧w'.cell? ⟨(ad160.add ((x9_2).toNat*2)).block,(ad160.add ((x9_2).toNat*2)).off+1,none⟩=some (.int .i64 ((rd_T77 x0_2 x9_2).f1))∧w'.cell? (ad160.add (((ji10)).toNat*2))=some (.int .i64 ((rd_T77 x0_2 (ji10)).f0))∧w'.cell? ⟨(ad160.add (((ji10)).toNat*2)).block,(ad160.add (((ji10)).toNat*2)).off+1,none⟩=some (.int .i64 ((rd_T77 x0_2 (ji10)).f1))) (ds:=[]) Y2.q0 (by kernel_rfl) rfl rfl ⟨hx160_0,hx160_1,hx161_0,hx161_1⟩ (fun hHeld=>?_);refine with_tabW Y2.tab4 Y2.bits4 (fun HT_ HW_=>?_)
            generalize wr.drew=w14 at HO_0 HK HB hx160_0 hx160_1 hx161_0 hx161_1 hHeld ⊢
            refine pu_ 0 18 Y2.q1 HT_.out ?_
            refine pu_ 1 19 Y2.q2 HT_.out ?_
            refine pu_ 2 20 Y2.q3 HT_.out ?_
            refine pu_ 3 21 Y2.q4 HT_.out ?_
            refine pu_ 4 22 Y2.q5 HT_.out ?_
            refine pu_ 5 23 Y2.q6 HT_.out ?_
            refine pu_ 6 24 Y2.q7 HT_.out ?_
            refine pu_ 7 25 Y2.q8 HT_.out ?_
            refine pu_ 9 27 #[I,I,I,I,I,I,I,I,O,I,O,O,O,O,O,O,O] HT_.out ?_
            refine pu_ 10 28 #[I,I,I,I,I,I,I,I,O,I,I,O,O,O,O,O,O] HT_.out ?_
            refine pu_ 11 29 #[I,I,I,I,I,I,I,I,O,I,I,I,O,O,O,O,O] HT_.out ?_
            refine pu_ 12 30 #[I,I,I,I,I,I,I,I,O,I,I,I,I,O,O,O,O] HT_.out ?_
            refine tk4_ 8 26 Y2.q9 HT_.out HW_.out hHeld ?_
            refine tk4_ 13 31 Y2.q10 HT_.out HW_.out hHeld ?_
            refine o1_ 14 32 Y2.q11 HT_.out (fun K hK=>?_)
            refine goesD_ Tryd.func78 (by kernel_rfl) rfl #[.agg #[.int .i64 ((rd_T77 x0_2 x9_2).f0),.int .i64 ((rd_T77 x0_2 x9_2).f1)],.agg #[.int .i64 ((rd_T77 x0_2 (ji10)).f0),.int .i64 ((rd_T77 x0_2 (ji10)).f1)]] (by rfl) rfl rfl (by rfl) (by (try simp only [List.map_toArray,List.map_cons,List.map_nil]);first | done | (simp only [hji10];rfl) | rfl | (simp only [List.length_drop,List.length_take];rfl)) ?_
            with_reducible refine (Y30.calls k2 ((rd_T77 x0_2 x9_2).f0) ((rd_T77 x0_2 x9_2).f1) ((rd_T77 x0_2 (ji10)).f0) ((rd_T77 x0_2 (ji10)).f1) t162 _ A13.out).mono ?_
            rintro e w16 ⟨rfl,hb⟩
            have HS0_:=(hb.cell (World.block_lt_of_cell? _ _ (hHeld.1))).trans (hHeld.1)
            have HS1_:=(hb.cell (World.block_lt_of_cell? _ _ (hHeld.2.1))).trans (hHeld.2.1)
            have HS2_:=(hb.cell (World.block_lt_of_cell? _ _ (hHeld.2.2.1))).trans (hHeld.2.2.1)
            have HS3_:=(hb.cell (World.block_lt_of_cell? _ _ (hHeld.2.2.2))).trans (hHeld.2.2.2)
            refine ⟨_,rfl,?_⟩
            have n0_:=aM (Kd.R_below (z1_ HO_0.out) hb)
            have n1_:=aM (Kept.below (S:=(fun k_=>P0_ k_)) (z10_ HK.out) hb)
            have n2_:=aM (below_step (z5_ HB.out) hb)
            clear HO_0
            clear HK
            clear HB
            have HO_0:=n0_
            have HK:=n1_
            have HB:=n2_
            clear n0_ n1_ n2_
            (try clear hb)
            refine hK.out _ _ ⟨HS0_,HS1_,HS2_,HS3_⟩ (fun hHeld=>?_)
            clear hK K
            refine nm_ 32 ?_
            refine pu_ 15 33 Y2.q12 HT_.out ?_
            refine pu_ 16 34 Y2.q13 HT_.out ?_
            refine done_ (done_of HT_.out (by kernel_rfl)) ?_
            try go_wp2
            go_meet
            case rel=>exact ⟨_,(decide (t162<0)),(z2_),H',⟨by have:=HK1.out;have:=HK2.out;first | omega | exact Nat.le_refl _⟩,⟨z1_ HO_0.out⟩,⟨z10_ HK.out⟩,⟨z5_ HB.out⟩⟩
           ·rw [if_neg c12] at H
            exact nO H
          ·rw [if_neg c11] at H
           exact nO H
         ·rw [if_neg c9] at H
          exact nO H
        ·rw [if_neg c8] at H
         exact nO H
       ·rw [if_neg c7] at H
        have c7b0:decide (a1<x9_2)=false:=dF c7
        clear c7
        (first | rw [c7b0] | (simp only [i64_w,i32_w];rw [c7b0]) | skip)
        have H':=aM H
        clear H
        try go_wp2
        have n0_:=aM (Kd.R_drew HO_0.out)
        have n1_:=aM (Kept.drew HK.out)
        have n2_:=aM (below_drew1 HB.out)
        clear HO_0
        clear HK
        clear HB
        have HO_0:=n0_
        have HK:=n1_
        have HB:=n2_
        clear n0_ n1_ n2_
        refine start_ (n:=17) (S:=fun w'=>True) (ds:=[]) Y2.q0 (by kernel_rfl) rfl rfl trivial (fun hHeld=>?_);refine with_tabW Y2.tab4 Y2.bits4 (fun HT_ HW_=>?_)
        generalize wr.drew=w17 at HO_0 HK HB hHeld ⊢
        refine pu_ 0 18 Y2.q1 HT_.out ?_
        refine pu_ 1 19 Y2.q2 HT_.out ?_
        refine pu_ 2 20 Y2.q3 HT_.out ?_
        refine pu_ 3 21 Y2.q4 HT_.out ?_
        refine pn_ 4 22 Y2.q5 HT_.out ?_
        refine pn_ 5 23 Y2.q6 HT_.out ?_
        refine pn_ 6 24 Y2.q7 HT_.out ?_
        refine pn_ 7 25 Y2.q8 HT_.out ?_
        refine pn_ 8 26 #[I,I,I,I,I,I,I,I,I,O,O,O,O,O,O,O,O] HT_.out ?_
        refine pn_ 9 27 #[I,I,I,I,I,I,I,I,I,I,O,O,O,O,O,O,O] HT_.out ?_
        refine pn_ 10 28 #[I,I,I,I,I,I,I,I,I,I,I,O,O,O,O,O,O] HT_.out ?_
        refine pn_ 11 29 #[I,I,I,I,I,I,I,I,I,I,I,I,O,O,O,O,O] HT_.out ?_
        refine pn_ 12 30 Y2.q9 HT_.out ?_
        refine pn_ 13 31 Y2.q10 HT_.out ?_
        refine pn_ 14 32 Y2.q11 HT_.out ?_
        refine pn_ 15 33 Y2.q12 HT_.out ?_
        refine pu_ 16 34 Y2.q13 HT_.out ?_
        refine done_ (done_of HT_.out (by kernel_rfl)) ?_
        try go_wp2
        go_meet
        case rel=>exact ⟨_,(false),(z2_),H',⟨by have:=HK1.out;have:=HK2.out;first | omega | exact Nat.le_refl _⟩,⟨z1_ HO_0.out⟩,⟨z10_ HK.out⟩,⟨z5_ HB.out⟩⟩
      case rest =>
       clear HC6
       try clear c1
       try clear p1
       try clear q1
       try clear hx1
       try clear p2
       try clear c5
       try clear c5b0
       try clear p6
       try clear c7
       try clear c7b0
       try clear c8
       try clear c8b0
       try clear c9
       try clear c9b0
       try clear c11
       try clear c11b0
       try clear c12
       try clear c12b0
       try clear p16
       try clear q16
       try clear hx16
       try clear hx160_0
       try clear hx160_1
       try clear hx161_0
       try clear hx161_1
       try clear p160
       try clear p161
       try clear p2
       try clear q160
       try clear q161
       obtain ⟨kq,x34_5,rfl,HA,HJ5,HO_0,HK,HB⟩:=hcut
       cases kq with
       | zero=>exact absurd HA.out (by simp [Y2.j2])
       | succ kj5 =>
        have H:=HA.out
        clear HA
        simp only [Y2.j2] at H
        by_cases c18:x34_5=true
        ·subst c18
         have H1:(if 0≤(wrap64 (x9_2-1)) then (if (wrap64 (x9_2-1))<(x0_2.length:Int) then (if 0≤x9_2 then (if x9_2<(x0_2.length:Int) then (Y2.l1 kj5 ((x0_2.set (x9_2:Int).toNat (⟨(rd_T77 x0_2 (wrap64 (x9_2-1))).f0,(rd_T77 x0_2 (wrap64 (x9_2-1))).f1⟩:S77)).set ((wrap64 (x9_2-1)):Int).toNat (⟨(rd_T77 x0_2 x9_2).f0,(rd_T77 x0_2 x9_2).f1⟩:S77)) a1 a2 x8_1 (wrap64 (x9_2-1))) else (none)) else (none)) else (none)) else (none))=some r:=by rw [if_pos rfl] at H;exact H
         clear H
         have H:=H1
         clear H1
         obtain ⟨ji19,hji19⟩:∃ j_:Int,(wrap64 (x9_2-1))=j_:=⟨_,rfl⟩
         replace H:(if 0≤(ji19) then (if (ji19)<(x0_2.length:Int) then (if 0≤x9_2 then (if x9_2<(x0_2.length:Int) then (Y2.l1 kj5 ((x0_2.set (x9_2:Int).toNat (⟨(rd_T77 x0_2 (ji19)).f0,(rd_T77 x0_2 (ji19)).f1⟩:S77)).set ((ji19):Int).toNat (⟨(rd_T77 x0_2 x9_2).f0,(rd_T77 x0_2 x9_2).f1⟩:S77)) a1 a2 x8_1 ji19) else (none)) else (none)) else (none)) else (none))=some r:=by first | (rw [hji19] at H;exact H) | (simp only [hji19] at H ⊢;exact H)
         have hji19w:(IntKind.i64.wrap (x9_2-1))=ji19:=(i64_w _).trans hji19
         by_cases c20:0≤(ji19)
         ·rw [if_pos c20] at H
          have c20b0:decide (0≤(ji19))=true:=dE c20
          clear c20
          by_cases c21:(ji19)<(x0_2.length:Int)
          ·rw [if_pos c21] at H
           have c21b0:decide ((ji19)<(x0_2.length:Int))=true:=dE c21
           clear c21
           by_cases c22:0≤x9_2
           ·rw [if_pos c22] at H
            have c22b0:decide (0≤x9_2)=true:=dE c22
            clear c22
            by_cases c23:x9_2<(x0_2.length:Int)
            ·rw [if_pos c23] at H
             have c23b0:decide (x9_2<(x0_2.length:Int))=true:=dE c23
             clear c23
             obtain ⟨y165,hy165⟩:∃ y_:List (S77),y_=(x0_2.set (x9_2:Int).toNat (⟨(rd_T77 x0_2 (ji19)).f0,(rd_T77 x0_2 (ji19)).f1⟩:S77)):=⟨_,rfl⟩
             replace H:(Y2.l1 kj5 (y165.set ((ji19):Int).toNat (⟨(rd_T77 x0_2 x9_2).f0,(rd_T77 x0_2 x9_2).f1⟩:S77)) a1 a2 x8_1 ji19)=some r:=by first | (rw [hy165];with_reducible exact H) | (have H2_:=(Option.bind_some _ _).symm.trans H;rw [hy165];with_reducible exact H2_) | (have H2_:=(Option.bind_some _ _).symm.trans H;with_reducible exact H2_) | with_reducible exact H | (rw [hy165];exact H) | exact H
             have Ny165:=aM hy165
             clear hy165
             obtain ⟨y166,hy166⟩:∃ y_:List (S77),y_=(y165.set ((ji19):Int).toNat (⟨(rd_T77 x0_2 x9_2).f0,(rd_T77 x0_2 x9_2).f1⟩:S77)):=⟨_,rfl⟩
             replace H:(Y2.l1 kj5 y166 a1 a2 x8_1 ji19)=some r:=by first | (rw [hy166];with_reducible exact H) | (have H2_:=(Option.bind_some _ _).symm.trans H;rw [hy166];with_reducible exact H2_) | (have H2_:=(Option.bind_some _ _).symm.trans H;with_reducible exact H2_) | with_reducible exact H | (rw [hy166];exact H) | exact H
             have Ny166:=aM hy166
             clear hy166
             have H':=aM H
             clear H
             try go_wp2
             have n0_:=aM (Kd.R_drew HO_0.out)
             have n1_:=aM (Kept.drew HK.out)
             have n2_:=aM (below_drew1 HB.out)
             clear HO_0
             clear HK
             clear HB
             have HO_0:=n0_
             have HK:=n1_
             have HB:=n2_
             clear n0_ n1_ n2_
             obtain ⟨Ao27,co27,eo27⟩:=Kd.R_slice HO_0.out
             (first | subst eo27 | (injection eo27 with f1_ f2_ f3_;have f4_:=f1_.symm;have f5_:=f3_.symm;clear f1_ f2_ f3_;subst f4_;subst f5_))
             have p163:0≤((ji19):Int):=dT (z0_)
             have q163:(ji19)<(x0_2.length:Int):=dT (z0_)
             obtain ⟨ad163,e163,hx163_0,hx163_1⟩:=at_T77 (Kd.R_reads' HO_0.out).2.2 (ji19) p163 q163
             cases e163
             replace p163:=eq_true p163
             replace q163:=eq_true q163
             have p164:0≤(x9_2:Int):=dT (z0_)
             have q164:x9_2<(x0_2.length:Int):=dT (z0_)
             obtain ⟨ad164,e164,hx164_0,hx164_1⟩:=at_T77 (Kd.R_reads' HO_0.out).2.2 x9_2 p164 q164
             obtain rfl:ad163=ad164:=(by injection e164)
             replace p164:=eq_true p164
             replace q164:=eq_true q164
             have p24:0≤(x9_2:Int):=dT (z0_)
             have q24:(x9_2:Int)<((x0_2.length:Int):Int):=dT (z0_)
             obtain ⟨go24,co24,eo24,gb24,gl24,cl24,HG24⟩:=Kd.R_form HO_0.out (by omega)
             (first | cases eo24 | (injection eo24 with ea_ en_ ec_;(first | subst ea_ | (injection ea_ with ea_;subst ea_));subst ec_;clear en_))
             have GB24:=aM gb24
             have GG24:=aM HG24
             clear gb24 gl24 HG24
             have HMgo24:=aM (show (P0_ go24∨w.heap.size≤go24) from (HO_0.out.1 _ rfl))
             (first | simp only [add_plain] at hx163_0 | skip)
             (first | simp only [add_plain] at hx163_1 | skip)
             (first | simp only [add_plain] at hx164_0 | skip)
             (first | simp only [add_plain] at hx164_1 | skip)
             obtain ⟨ce24,hcl24,hM24,hcc24,hfr24⟩:=Kd.R_elem HO_0.out z77 (x9_2:Int) p24 q24
             obtain rfl:=k77_openM hM24
             have hx24_0:World.cell? _ ⟨go24,(x9_2:Int).toNat*2,none⟩=some (.int .i64 ((rd_T77 x0_2 x9_2).f0)):=hcc24 0 _ rfl
             have hx24_1:World.cell? _ ⟨go24,(x9_2:Int).toNat*2+1,none⟩=some (.int .i64 ((rd_T77 x0_2 x9_2).f1)):=hcc24 1 _ rfl
             have hf24_0:World.frozen? _ ⟨go24,(x9_2:Int).toNat*2,none⟩=false:=hfr24 0
             have hf24_1:World.frozen? _ ⟨go24,(x9_2:Int).toNat*2+1,none⟩=false:=hfr24 1
             clear hcl24 hcc24 hfr24 hM24
             replace p24:=eq_true p24
             replace q24:=eq_true q24
             obtain ⟨ce28,hcl28,hM28,hcc28,hfr28⟩:=Kd.R_elem HO_0.out z77 (x9_2:Int) (dT (z0_)) (by have h_:(x9_2:Int)<((x0_2.length:Int):Int):=dT (by first | (with_reducible assumption) | assumption);first | exact h_ | (have e_:=(Kd.R_reads' HO_0.out).1;omega) | simpa using h_)
             obtain rfl:=k77_openM hM28
             have HP28:=(Kd.R_seg HO_0.out (x9_2:Int) (dT (z0_)) (by have h_:(x9_2:Int)<((x0_2.length:Int):Int):=dT (by first | (with_reducible assumption) | assumption);first | exact h_ | (have e_:=(Kd.R_reads' HO_0.out).1;omega) | simpa using h_) (seg:=[.int .i64 ((rd_T77 x0_2 (ji19)).f0),.int .i64 ((rd_T77 x0_2 (ji19)).f1)]) (j:=0) hcl28 hcc28 (show 2≤2 from by decide) (x':=(⟨(rd_T77 x0_2 (ji19)).f0,(rd_T77 x0_2 (ji19)).f1⟩:S77)) (k77_mkM _ _ _ (⟨(rd_T77 x0_2 (ji19)).f0,(rd_T77 x0_2 (ji19)).f1⟩:S77) ) (fun _ hk=>hk)).1
             rw [← Ny165.out] at HP28
             have HQ28:=aM HP28
             clear hcl28 hcc28 hfr28 hM28 HP28
             have p25:0≤((ji19):Int):=dT (z0_)
             have q25:((ji19):Int)<((x0_2.length:Int):Int):=dT (z0_)
             obtain ⟨ce25,hcl25,hM25,hcc25,hfr25⟩:=Kd.R_elem HQ28.out z77 ((ji19):Int) p25 q25
             obtain rfl:=k77_openM hM25
             have hx25_0:World.cell? _ ⟨go24,((ji19):Int).toNat*2,none⟩=some (.int .i64 ((rd_T77 y165 (ji19)).f0)):=hcc25 0 _ rfl
             have hx25_1:World.cell? _ ⟨go24,((ji19):Int).toNat*2+1,none⟩=some (.int .i64 ((rd_T77 y165 (ji19)).f1)):=hcc25 1 _ rfl
             have hf25_0:World.frozen? _ ⟨go24,((ji19):Int).toNat*2,none⟩=false:=hfr25 0
             have hf25_1:World.frozen? _ ⟨go24,((ji19):Int).toNat*2+1,none⟩=false:=hfr25 1
             clear hcl25 hcc25 hfr25 hM25
             replace p25:=eq_true p25
             replace q25:=eq_true q25
             obtain ⟨ce29,hcl29,hM29,hcc29,hfr29⟩:=Kd.R_elem HQ28.out z77 ((ji19):Int) (dT (z0_)) (by have h_:((ji19):Int)<((x0_2.length:Int):Int):=dT (by first | (with_reducible assumption) | assumption);first | exact h_ | (have e_:=(Kd.R_reads' HO_0.out).1;omega) | simpa using h_)
             obtain rfl:=k77_openM hM29
             have HP29:=(Kd.R_seg HQ28.out ((ji19):Int) (dT (z0_)) (by have h_:((ji19):Int)<((x0_2.length:Int):Int):=dT (by first | (with_reducible assumption) | assumption);first | exact h_ | (have e_:=(Kd.R_reads' HO_0.out).1;omega) | simpa using h_) (seg:=[.int .i64 ((rd_T77 x0_2 x9_2).f0),.int .i64 ((rd_T77 x0_2 x9_2).f1)]) (j:=0) hcl29 hcc29 (show 2≤2 from by decide) (x':=(⟨(rd_T77 x0_2 x9_2).f0,(rd_T77 x0_2 x9_2).f1⟩:S77)) (k77_mkM _ _ _ (⟨(rd_T77 x0_2 x9_2).f0,(rd_T77 x0_2 x9_2).f1⟩:S77) ) (fun _ hk=>hk)).1
             rw [← Ny166.out] at HP29
             have HQ29:=aM HP29
             clear hcl29 hcc29 hfr29 hM29 HP29
             refine start_ (n:=18) (S:=fun w'=>w'.cell? ⟨go24,((ji19)).toNat*2,none⟩=some (.int .i64 ((rd_T77 x0_2 (ji19)).f0))∧w'.cell? ⟨go24,((ji19)).toNat*2+1,none⟩=some (.int .i64 ((rd_T77 x0_2 (ji19)).f1))∧w'.cell? ⟨go24,((x9_2).toNat*2),none⟩=some (.int .i64 ((rd_T77 x0_2 x9_2).f0))∧w'.cell? ⟨go24,((x9_2).toNat*2)+1,none⟩=some (.int .i64 ((rd_T77 x0_2 x9_2).f1))) (ds:=[15,17]) #[O,O,O,O,O,O,O,O,O,O,O,O,O,O,O,O,O,O] (by kernel_rfl) rfl rfl ⟨hx163_0,hx163_1,hx164_0,hx164_1⟩ (fun hHeld=>?_);refine with_tabW Y2.tab6 Y2.bits6 (fun HT_ HW_=>?_)
             generalize wc.drew=w26 at HO_0 HK HB GG24 HQ28 HQ29 hf24_0 hf24_1 hf25_0 hf25_1 hx163_0 hx163_1 hx164_0 hx164_1 hx24_0 hx24_1 hx25_0 hx25_1 hHeld ⊢
             have hne_:ji19.toNat*2≠x9_2.toNat*2:=by have a_:=of_eq_true p163;have b_:=of_eq_true p164;unfold wrap64 at hji19;omega
             have hz25_0:∀ V,(w26.setCell ⟨go24,(x9_2:Int).toNat*2,none⟩ V).cell? ⟨go24,((ji19):Int).toNat*2,none⟩=some (.int .i64 ((rd_T77 x0_2 (ji19)).f0)):=fun V=>(World.cell?_setCell_other _ _ _ _ (by intro e_;injection e_;omega)).trans hx163_0
             have hz25_1:∀ V,(w26.setCell ⟨go24,(x9_2:Int).toNat*2+1,none⟩ V).cell? ⟨go24,((ji19):Int).toNat*2+1,none⟩=some (.int .i64 ((rd_T77 x0_2 (ji19)).f1)):=fun V=>(World.cell?_setCell_other _ _ _ _ (by intro e_;injection e_;omega)).trans hx163_1
             have hy25_0:w26.frozen? ⟨go24,((ji19):Int).toNat*2,none⟩=false:=by have h_:=hf25_0;first | exact h_ | simpa only [World.frozen?_setCell] using h_ | simpa [World.setCells] using h_
             have hy25_1:w26.frozen? ⟨go24,((ji19):Int).toNat*2+1,none⟩=false:=by have h_:=hf25_1;first | exact h_ | simpa only [World.frozen?_setCell] using h_ | simpa [World.setCells] using h_
             refine pu_ 0 37 #[I,O,O,O,O,O,O,O,O,O,O,O,O,O,O,O,O,O] HT_.out ?_
             refine pu_ 1 38 #[I,I,O,O,O,O,O,O,O,O,O,O,O,O,O,O,O,O] HT_.out ?_
             refine pu_ 2 39 #[I,I,I,O,O,O,O,O,O,O,O,O,O,O,O,O,O,O] HT_.out ?_
             refine pu_ 3 40 #[I,I,I,I,O,O,O,O,O,O,O,O,O,O,O,O,O,O] HT_.out ?_
             refine pu_ 4 41 #[I,I,I,I,I,O,O,O,O,O,O,O,O,O,O,O,O,O] HT_.out ?_
             refine pu_ 5 42 #[I,I,I,I,I,I,O,O,O,O,O,O,O,O,O,O,O,O] HT_.out ?_
             refine pu_ 6 43 #[I,I,I,I,I,I,I,O,O,O,O,O,O,O,O,O,O,O] HT_.out ?_
             refine pu_ 7 44 #[I,I,I,I,I,I,I,I,O,O,O,O,O,O,O,O,O,O] HT_.out ?_
             refine pu_ 8 45 #[I,I,I,I,I,I,I,I,I,O,O,O,O,O,O,O,O,O] HT_.out ?_
             refine pu_ 10 47 #[I,I,I,I,I,I,I,I,I,O,I,O,O,O,O,O,O,O] HT_.out ?_
             refine pu_ 11 48 #[I,I,I,I,I,I,I,I,I,O,I,I,O,O,O,O,O,O] HT_.out ?_
             refine pu_ 12 49 #[I,I,I,I,I,I,I,I,I,O,I,I,I,O,O,O,O,O] HT_.out ?_
             refine tk4_ 9 46 #[I,I,I,I,I,I,I,I,I,I,I,I,I,O,O,O,O,O] HT_.out HW_.out hHeld ?_
             refine tk4_ 13 50 #[I,I,I,I,I,I,I,I,I,I,I,I,I,I,O,O,O,O] HT_.out HW_.out hHeld ?_
             refine pu_ 14 51 #[I,I,I,I,I,I,I,I,I,I,I,I,I,I,I,O,O,O] HT_.out ?_
             refine last_ (i:=15) (N:=none) #[I,I,I,I,I,I,I,I,I,I,I,I,I,I,I,I,O,O] rfl rfl (one_of HT_.out (by kernel_rfl)) (by decide) (fun K hK=>?_)
             refine skip_ (w1:=?_) (by rfl) rfl ?_ ?_
             rotate_left
             ·go_simp
              rfl
             refine hK.out _ _ ?_
             clear hK K
             refine pu_ 16 52 #[I,I,I,I,I,I,I,I,I,I,I,I,I,I,I,I,I,O] HT_.out ?_
             refine last_ (i:=17) (N:=none) #[I,I,I,I,I,I,I,I,I,I,I,I,I,I,I,I,I,I] rfl rfl (one_of HT_.out (by kernel_rfl)) (by decide) (fun K hK=>?_)
             refine skip_ (w1:=?_) (by rfl) rfl ?_ ?_
             rotate_left
             ·go_simp
              rfl
             refine hK.out _ _ ?_
             clear hK K
             refine done_ (done_of HT_.out (by kernel_rfl)) ?_
             try go_wp2
             go_roundg kj5
             case measure=>have:=HK1.out;have:=HK2.out;have:=HJ5.out;omega
             case rel=>exact ⟨(y166),(ji19),(by first | rfl | (simp;done) | (simp only [← hji19] <;> (first | rfl | simp)) | (simp [*];done)),H',⟨by have:=HK1.out;have:=HK2.out;have:=HJ5.out;omega⟩,⟨z1_ HQ29.out⟩,⟨z40_ HK.out HMgo24.out⟩,⟨z41_ HB.out GB24.out⟩⟩
            ·rw [if_neg c23] at H
             exact nO H
           ·rw [if_neg c22] at H
            exact nO H
          ·rw [if_neg c21] at H
           exact nO H
         ·rw [if_neg c20] at H
          exact nO H
        ·replace c18:=Bool.eq_false_iff.mpr c18
         subst c18
         have H1:(Y2.l0 kj5 x0_2 a1 a2 (wrap64 (x8_1+1)))=some r:=by rw [if_neg (show ¬ (false=true) by decide)] at H;exact H
         clear H
         have H:=H1
         clear H1
         have H':=aM H
         clear H
         go_wp2
         go_roundg kj5
         case measure=>have:=HK1.out;have:=HK2.out;have:=HJ5.out;omega
         case rel=>exact ⟨(x0_2),(wrap64 (x8_1+1)),(z2_),H',⟨by have:=HK1.out;have:=HK2.out;have:=HJ5.out;omega⟩,⟨z1_ HO_0.out⟩,⟨z10_ HK.out⟩,⟨z5_ HB.out⟩⟩
   ·rw [if_neg c5] at H
    have c5b0:decide (x8_1<a2)=false:=dF c5
    clear c5
    obtain rfl:=sI H
    go_wp2
    first | go_end0 | ((try simp only [Exit.inBlock,Exit.then]);refine bodyPost_ret (results_none rfl _ _ _) rfl ?_)
    exact ⟨z9_,z1_ HO_0.out,z5_ HB.out,z10_ HK.out⟩


/-! ### Y50: function 123 -/
def Y50.f (l0:List (S77)) (a1:Int) (a2:Int)  : Option (Unit):=none
theorem Y50.calls (A0:Option Addr) (c0:Nat) (l0:List (S77)) (a1:Int) (a2:Int)  (w:World) (hr0:Kd.C k77 w A0 l0.length l0) (hc0:l0.length≤c0) (h:Y50.f l0 a1 a2=some ()) :
  Calls Tryd.prog 123 #[.slice A0 l0.length c0,.int .i64 a1,.int .i64 a2,.func (.func 78) #[] #[]] w fun e w'=>e = .returned (.tuple #[])∧Drawn0 w w':=by
 have HR0:=aM hr0
 have HC0:=aM hc0
 clear hr0 hc0
 have H:(none)=some ():=h
 clear h
 exact nO H


/-! ### Y43: function 124 -/
def Y43.f (l0:List (S77)) (a1:Int) (a2:Int)  : Option (Unit):=none
theorem Y43.calls (A0:Option Addr) (c0:Nat) (l0:List (S77)) (a1:Int) (a2:Int)  (w:World) (hr0:Kd.C k77 w A0 l0.length l0) (hc0:l0.length≤c0) (h:Y43.f l0 a1 a2=some ()) :
  Calls Tryd.prog 124 #[.slice A0 l0.length c0,.int .i64 a1,.int .i64 a2,.func (.func 78) #[] #[]] w fun e w'=>e = .returned (.tuple #[])∧Drawn0 w w':=by
 have HR0:=aM hr0
 have HC0:=aM hc0
 clear hr0 hc0
 have H:(none)=some ():=h
 clear h
 exact nO H


/-- A state of type 3 at block g of W; what its slices lead to came in by w0. -/
def IsS3 (w0 W:World) (g:Nat) (f0:Int):Prop:=W.heap[g]? = some (.cells #[.int .i64 f0] 3 (0,0))∧w0.heap.size≤g
theorem IsS3.grown {w0 W:World} {g:Nat} {f0:Int} {W1:World} {row:Option Nat} (h:IsS3 w0 W g f0) (hw:W.grownBy W1 row) (hne:some g≠row):IsS3 w0 W1 g f0:=by
 obtain ⟨hb,hg⟩:=h
 exact ⟨blk_grown hb hw hne,hg⟩
theorem IsS3.kept {w0 W:World} {g:Nat} {f0:Int} {W1:World} {S:Nat→Prop} (h:IsS3 w0 W g f0) (hk:Kept W W1 S) (hne:¬ S g):IsS3 w0 W1 g f0:=by
 obtain ⟨hb,hg⟩:=h
 exact ⟨blk_kept hb hk hne,hg⟩
theorem IsS3.below {w0 W:World} {g:Nat} {f0:Int} {W1:World} (h:IsS3 w0 W g f0) (hw:Below W.heap.size W W1):IsS3 w0 W1 g f0:=h.grown (grown_of_below hw none) (by simp)
theorem IsS3.alloc {w0 W:World} {g:Nat} {f0:Int} (h:IsS3 w0 W g f0) (o:Obj):IsS3 w0 (W.alloc o) g f0:=h.below (below_alloc (Below.refl _ _) o)
theorem IsS3.drewN {w0 W:World} {g:Nat} {f0:Int} (h:IsS3 w0 W g f0) (m:Nat):IsS3 w0 (W.drewN m) g f0:=h
theorem IsS3.drew {w0 W:World} {g:Nat} {f0:Int} (h:IsS3 w0 W g f0):IsS3 w0 W.drew g f0:=h
theorem IsS3.apart {w0 W:World} {g:Nat} {f0:Int} {α:Type} {d:Kd α} {e:Nat} {base:Nat} {ok:Nat→Prop} {v:Value} {xs:List α} (h:IsS3 w0 W g f0) (ho:d.R e W base ok v xs) (ht:∀ q,q ∈ e :: d.E→q≠3):d.R e W base (fun k=>ok k∧k≠g) v xs:=by
 obtain ⟨hb,hg⟩:=h
 exact Kd.R_types ho hb ht
theorem IsS3.own_ne {w0 W:World} {g:Nat} {f0:Int} {α:Type} {d:Kd α} {e:Nat} {base:Nat} {ok:Nat→Prop} {v:Value} {xs:List α} (h:IsS3 w0 W g f0) (ho:d.R e W base ok v xs) (ht:e≠3):some g≠v.ownBlock:=by
 obtain ⟨hb,hg⟩:=h
 exact Kd.R_ne ho hb ht
theorem IsS3.ge {w0 W:World} {g:Nat} {f0:Int} (h:IsS3 w0 W g f0):w0.heap.size≤g:=by
 obtain ⟨hb,hg⟩:=h
 exact hg
theorem cellS3_0 {W:World} {g:Nat} {f0:Int} (h:W.heap[g]? = some (.cells #[.int .i64 f0] 3 (0,0))):W.cell? ⟨g,0,none⟩=some (.int .i64 f0):=(blk_cell h 0).trans rfl
theorem IsS3.set_0 {w0 W:World} {g:Nat} {f0:Int} (h:IsS3 w0 W g f0) (x:Int):IsS3 w0 (W.setCell ⟨g,0,none⟩ (.int .i64 x)) g x:=by
 obtain ⟨hb,hg⟩:=h
 exact ⟨by simpa using blk_set hb 0 (.int .i64 x),hg⟩
/-! ### Y8: function 148 -/
def Y8.f (k:Nat) (l0:List (S77)) (a1:Int) (a2:Int) (s3_0:Int)  : Option (Int × Int × Int):=if 0≤a2 then (if a2<(l0.length:Int) then (if 0≤a1 then (if a1<(l0.length:Int) then ((Y30.f k ((rd_T77 l0 a2).f0) ((rd_T77 l0 a2).f1) ((rd_T77 l0 a1).f0) ((rd_T77 l0 a1).f1)).bind fun t169=>(if t169<0 then (some (a2,a1,wrap64 (s3_0+1))) else (some (a1,a2,s3_0)))) else (none)) else (none)) else (none)) else (none)
theorem Y8.mono:∀ a0 a1 a2 a3 k,LeO (Y8.f k a0 a1 a2 a3) (Y8.f (k+1) a0 a1 a2 a3):=by
 intro a0 a1 a2 a3 k
 have m0:=@Y30.mono
 unfold Y8.f
 exact mO
def Y8.T1:Bool × List (List Nat × List Nat):=(true,[([],[]),([],[]),([],[]),([1,2],[1,2]),([3],[3]),([],[]),([],[]),([5,6],[5,6]),([7],[7]),([0,4,8],[0,4,8]),([9],[9])])
def Y8.B1:List Nat:=[0,0,0,6,14,0,0,96,224,511,1023]
theorem Y8.tab1:rtab .any (opsOf Tryd.f148 1)=Y8.T1:=by kernel_rfl
theorem Y8.bits1:waitsOk Y8.T1.2 Y8.B1=true:=by kernel_rfl
theorem Y8.calls (k:Nat) (A0:Option Addr) (c0:Nat) (l0:List (S77)) (a1:Int) (a2:Int) (g:Nat) (s3_0:Int)  (r1:Int) (r2:Int) (r3:Int) (w0 w:World) (hI:IsS3 w0 w g s3_0) (hB:Below w0.heap.size w0 w) (hr0:∀ W_,KeepBut w W_ g none→Kd.C k77 W_ A0 l0.length l0) (hc0:l0.length≤c0) (h:Y8.f k l0 a1 a2 s3_0=some (r1,r2,r3)) :
  Calls Tryd.prog 148 #[.slice A0 l0.length c0,.int .i64 a1,.int .i64 a2,.pointer (some ⟨g,0,none⟩),.func (.func 78) #[] #[]] w fun e w'=>e = .returned (.tuple #[.int .i64 r1,.int .i64 r2])∧IsS3 w0 w' g r3∧Below w0.heap.size w0 w'∧KeepBut w w' g none:=by
 have hu77:=Tryd.underlying77
 have HR0:=aM hr0
 have HC0:=aM hc0
 clear hr0 hc0
 have HI3:=aM hI
 have HK:=aM (KeepBut.refl w g none)
 have HL:=aM hB.size
 clear hI
 have HW0:=aM hB.size
 have HB:=aM hB
 clear hB
 have H:(if 0≤a2 then (if a2<(l0.length:Int) then (if 0≤a1 then (if a1<(l0.length:Int) then ((Y30.f k ((rd_T77 l0 a2).f0) ((rd_T77 l0 a2).f1) ((rd_T77 l0 a1).f0) ((rd_T77 l0 a1).f1)).bind fun t169=>(if t169<0 then (some (a2,a1,wrap64 (s3_0+1))) else (some (a1,a2,s3_0)))) else (none)) else (none)) else (none)) else (none))=some (r1,r2,r3):=h
 clear h
 by_cases c6:0≤a2
 ·rw [if_pos c6] at H
  have c6b0:decide (0≤a2)=true:=dE c6
  clear c6
  by_cases c7:a2<(l0.length:Int)
  ·rw [if_pos c7] at H
   have c7b0:decide (a2<(l0.length:Int))=true:=dE c7
   clear c7
   by_cases c8:0≤a1
   ·rw [if_pos c8] at H
    have c8b0:decide (0≤a1)=true:=dE c8
    clear c8
    by_cases c9:a1<(l0.length:Int)
    ·rw [if_pos c9] at H
     have c9b0:decide (a1<(l0.length:Int))=true:=dE c9
     clear c9
     replace H:=bS H
     obtain ⟨t169,A100,H⟩:=H
     replace H:(if t169<0 then (some (a2,a1,wrap64 (s3_0+1))) else (some (a1,a2,s3_0)))=some (r1,r2,r3):=H
     have A10:=aM A100
     clear A100
     by_cases c11:t169<0
     ·rw [if_pos c11] at H
      have c11b0:decide (t169<0)=true:=dE c11
      clear c11
      simp only [Option.some.injEq,Prod.mk.injEq] at H
      obtain ⟨rfl,rfl,rfl⟩:=H
      go_enter Tryd.func148,Tryd.ntmps148
      try go_wp2
      have n0_:=aM (IsS3.drew HI3.out)
      have n1_:=aM (keep_drew HK.out)
      have n2_:=aM (below_drew1 HB.out)
      clear HI3
      clear HK
      clear HB
      have HI3:=n0_
      have HK:=n1_
      have HB:=n2_
      clear n0_ n1_ n2_
      have p167:0≤(a2:Int):=dT (z0_)
      have q167:a2<(l0.length:Int):=dT (z0_)
      obtain ⟨ad167,e167,hx167_0,hx167_1⟩:=at_T77 (Kd.C_foot_now HR0.out HK.out) a2 p167 q167
      have hw167_1:=hx167_1
      have hw167_0:=hx167_0
      cases e167
      have hne167_1:=(show (⟨(ad167.add ((a2).toNat*2)).block,(ad167.add ((a2).toNat*2)).off+1,none⟩:Addr).block≠g from by first | (rw [add_block];exact Kd.foot_ne HR0.out (by omega) (by decide)) | (show (Addr.add _ _).block≠_;rw [add_block];exact Kd.foot_ne HR0.out (by omega) (by decide)) | exact Kd.foot_ne HR0.out (by omega) (by decide) | (dsimp only;exact Kd.foot_ne HR0.out (by omega) (by decide)))
      have hlt167_1:=(Kd.foot_lt HR0.out (by omega) (by decide))
      have hne167_0:=(show ((ad167.add ((a2).toNat*2)):Addr).block≠g from by first | (rw [add_block];exact Kd.foot_ne HR0.out (by omega) (by decide)) | (show (Addr.add _ _).block≠_;rw [add_block];exact Kd.foot_ne HR0.out (by omega) (by decide)) | exact Kd.foot_ne HR0.out (by omega) (by decide) | (dsimp only;exact Kd.foot_ne HR0.out (by omega) (by decide)))
      have hlt167_0:=(Kd.foot_lt HR0.out (by omega) (by decide))
      replace p167:=eq_true p167
      replace q167:=eq_true q167
      have p168:0≤(a1:Int):=dT (z0_)
      have q168:a1<(l0.length:Int):=dT (z0_)
      obtain ⟨ad168,e168,hx168_0,hx168_1⟩:=at_T77 (Kd.C_foot_now HR0.out HK.out) a1 p168 q168
      have hw168_1:=hx168_1
      have hw168_0:=hx168_0
      obtain rfl:ad167=ad168:=(by injection e168)
      have hne168_1:=(show (⟨(ad167.add ((a1).toNat*2)).block,(ad167.add ((a1).toNat*2)).off+1,none⟩:Addr).block≠g from by first | (rw [add_block];exact Kd.foot_ne HR0.out (by omega) (by decide)) | (show (Addr.add _ _).block≠_;rw [add_block];exact Kd.foot_ne HR0.out (by omega) (by decide)) | exact Kd.foot_ne HR0.out (by omega) (by decide) | (dsimp only;exact Kd.foot_ne HR0.out (by omega) (by decide)))
      have hlt168_1:=(Kd.foot_lt HR0.out (by omega) (by decide))
      have hne168_0:=(show ((ad167.add ((a1).toNat*2)):Addr).block≠g from by first | (rw [add_block];exact Kd.foot_ne HR0.out (by omega) (by decide)) | (show (Addr.add _ _).block≠_;rw [add_block];exact Kd.foot_ne HR0.out (by omega) (by decide)) | exact Kd.foot_ne HR0.out (by omega) (by decide) | (dsimp only;exact Kd.foot_ne HR0.out (by omega) (by decide)))
      have hlt168_0:=(Kd.foot_lt HR0.out (by omega) (by decide))
      replace p168:=eq_true p168
      replace q168:=eq_true q168
      refine start_ (n:=11) (S:=fun w'=>w'.cell? (ad167.add ((a2).toNat*2))=some (.int .i64 ((rd_T77 l0 a2).f0))∧w'.cell? ⟨(ad167.add ((a2).toNat*2)).block,(ad167.add ((a2).toNat*2)).off+1,none⟩=some (.int .i64 ((rd_T77 l0 a2).f1))∧w'.cell? (ad167.add ((a1).toNat*2))=some (.int .i64 ((rd_T77 l0 a1).f0))∧w'.cell? ⟨(ad167.add ((a1).toNat*2)).block,(ad167.add ((a1).toNat*2)).off+1,none⟩=some (.int .i64 ((rd_T77 l0 a1).f1))) (ds:=[]) #[O,O,O,O,O,O,O,O,O,O,O] (by kernel_rfl) rfl rfl ⟨hx167_0,hx167_1,hx168_0,hx168_1⟩ (fun hHeld=>?_);refine with_tabW Y8.tab1 Y8.bits1 (fun HT_ HW_=>?_)
      generalize w.drew=w12 at HI3 HK HB hx167_0 hx167_1 hx168_0 hx168_1 hHeld ⊢
      refine pu_ 0 12 #[I,O,O,O,O,O,O,O,O,O,O] HT_.out ?_
      refine pu_ 1 13 #[I,I,O,O,O,O,O,O,O,O,O] HT_.out ?_
      refine pu_ 2 14 #[I,I,I,O,O,O,O,O,O,O,O] HT_.out ?_
      refine pu_ 3 15 #[I,I,I,I,O,O,O,O,O,O,O] HT_.out ?_
      refine pu_ 5 17 #[I,I,I,I,O,I,O,O,O,O,O] HT_.out ?_
      refine pu_ 6 18 #[I,I,I,I,O,I,I,O,O,O,O] HT_.out ?_
      refine pu_ 7 19 #[I,I,I,I,O,I,I,I,O,O,O] HT_.out ?_
      refine tk4_ 4 16 #[I,I,I,I,I,I,I,I,O,O,O] HT_.out HW_.out hHeld ?_
      refine tk4_ 8 20 #[I,I,I,I,I,I,I,I,I,O,O] HT_.out HW_.out hHeld ?_
      refine o1_ 9 21 #[I,I,I,I,I,I,I,I,I,I,O] HT_.out (fun K hK=>?_)
      refine goesD_ Tryd.func78 (by kernel_rfl) rfl #[.agg #[.int .i64 ((rd_T77 l0 a2).f0),.int .i64 ((rd_T77 l0 a2).f1)],.agg #[.int .i64 ((rd_T77 l0 a1).f0),.int .i64 ((rd_T77 l0 a1).f1)]] (by rfl) rfl rfl (by rfl) (z42_) ?_
      with_reducible refine (Y30.calls k ((rd_T77 l0 a2).f0) ((rd_T77 l0 a2).f1) ((rd_T77 l0 a1).f0) ((rd_T77 l0 a1).f1) t169 _ A10.out).mono ?_
      rintro e w13 ⟨rfl,hb⟩
      have HS0_:=(hb.cell (World.block_lt_of_cell? _ _ (hHeld.1))).trans (hHeld.1)
      have HS1_:=(hb.cell (World.block_lt_of_cell? _ _ (hHeld.2.1))).trans (hHeld.2.1)
      have HS2_:=(hb.cell (World.block_lt_of_cell? _ _ (hHeld.2.2.1))).trans (hHeld.2.2.1)
      have HS3_:=(hb.cell (World.block_lt_of_cell? _ _ (hHeld.2.2.2))).trans (hHeld.2.2.2)
      refine ⟨_,rfl,?_⟩
      have n0_:=aM (IsS3.below (z28_ HI3.out) hb)
      have n1_:=aM (KeepBut.trans (z12_ HK.out) (KeepBut.of_below hb g none) (.inl rfl))
      have n2_:=aM (below_step (z18_ HB.out HI3.out) hb)
      clear HI3
      clear HK
      clear HB
      have HI3:=n0_
      have HK:=n1_
      have HB:=n2_
      clear n0_ n1_ n2_
      (try clear hb)
      refine hK.out _ _ ⟨HS0_,HS1_,HS2_,HS3_⟩ (fun hHeld=>?_)
      clear hK K
      refine nm_ 21 ?_
      refine pu_ 10 22 #[I,I,I,I,I,I,I,I,I,I,I] HT_.out ?_
      refine done_ (done_of HT_.out (by kernel_rfl)) ?_
      obtain ⟨HGz14,hgz14⟩:=HI3.out
      have hcz14_0:=cellS3_0 HGz14
      have hfz14_0:=blk_frozen HGz14 0
      clear HGz14 hgz14
      try go_wp2
      go_ret2
      exact ⟨z9_,z28_ HI3.out,z18_ HB.out HI3.out,z12_ HK.out⟩
     ·rw [if_neg c11] at H
      have c11b0:decide (t169<0)=false:=dF c11
      clear c11
      simp only [Option.some.injEq,Prod.mk.injEq] at H
      obtain ⟨rfl,rfl,rfl⟩:=H
      go_enter Tryd.func148,Tryd.ntmps148
      try go_wp2
      have n0_:=aM (IsS3.drew HI3.out)
      have n1_:=aM (keep_drew HK.out)
      have n2_:=aM (below_drew1 HB.out)
      clear HI3
      clear HK
      clear HB
      have HI3:=n0_
      have HK:=n1_
      have HB:=n2_
      clear n0_ n1_ n2_
      have p167:0≤(a2:Int):=dT (z0_)
      have q167:a2<(l0.length:Int):=dT (z0_)
      obtain ⟨ad167,e167,hx167_0,hx167_1⟩:=at_T77 (Kd.C_foot_now HR0.out HK.out) a2 p167 q167
      have hw167_1:=hx167_1
      have hw167_0:=hx167_0
      cases e167
      have hne167_1:=(show (⟨(ad167.add ((a2).toNat*2)).block,(ad167.add ((a2).toNat*2)).off+1,none⟩:Addr).block≠g from by first | (rw [add_block];exact Kd.foot_ne HR0.out (by omega) (by decide)) | (show (Addr.add _ _).block≠_;rw [add_block];exact Kd.foot_ne HR0.out (by omega) (by decide)) | exact Kd.foot_ne HR0.out (by omega) (by decide) | (dsimp only;exact Kd.foot_ne HR0.out (by omega) (by decide)))
      have hlt167_1:=(Kd.foot_lt HR0.out (by omega) (by decide))
      have hne167_0:=(show ((ad167.add ((a2).toNat*2)):Addr).block≠g from by first | (rw [add_block];exact Kd.foot_ne HR0.out (by omega) (by decide)) | (show (Addr.add _ _).block≠_;rw [add_block];exact Kd.foot_ne HR0.out (by omega) (by decide)) | exact Kd.foot_ne HR0.out (by omega) (by decide) | (dsimp only;exact Kd.foot_ne HR0.out (by omega) (by decide)))
      have hlt167_0:=(Kd.foot_lt HR0.out (by omega) (by decide))
      replace p167:=eq_true p167
      replace q167:=eq_true q167
      have p168:0≤(a1:Int):=dT (z0_)
      have q168:a1<(l0.length:Int):=dT (z0_)
      obtain ⟨ad168,e168,hx168_0,hx168_1⟩:=at_T77 (Kd.C_foot_now HR0.out HK.out) a1 p168 q168
      have hw168_1:=hx168_1
      have hw168_0:=hx168_0
      obtain rfl:ad167=ad168:=(by injection e168)
      have hne168_1:=(show (⟨(ad167.add ((a1).toNat*2)).block,(ad167.add ((a1).toNat*2)).off+1,none⟩:Addr).block≠g from by first | (rw [add_block];exact Kd.foot_ne HR0.out (by omega) (by decide)) | (show (Addr.add _ _).block≠_;rw [add_block];exact Kd.foot_ne HR0.out (by omega) (by decide)) | exact Kd.foot_ne HR0.out (by omega) (by decide) | (dsimp only;exact Kd.foot_ne HR0.out (by omega) (by decide)))
      have hlt168_1:=(Kd.foot_lt HR0.out (by omega) (by decide))
      have hne168_0:=(show ((ad167.add ((a1).toNat*2)):Addr).block≠g from by first | (rw [add_block];exact Kd.foot_ne HR0.out (by omega) (by decide)) | (show (Addr.add _ _).block≠_;rw [add_block];exact Kd.foot_ne HR0.out (by omega) (by decide)) | exact Kd.foot_ne HR0.out (by omega) (by decide) | (dsimp only;exact Kd.foot_ne HR0.out (by omega) (by decide)))
      have hlt168_0:=(Kd.foot_lt HR0.out (by omega) (by decide))
      replace p168:=eq_true p168
      replace q168:=eq_true q168
      refine start_ (n:=11) (S:=fun w'=>w'.cell? (ad167.add ((a2).toNat*2))=some (.int .i64 ((rd_T77 l0 a2).f0))∧w'.cell? ⟨(ad167.add ((a2).toNat*2)).block,(ad167.add ((a2).toNat*2)).off+1,none⟩=some (.int .i64 ((rd_T77 l0 a2).f1))∧w'.cell? (ad167.add ((a1).toNat*2))=some (.int .i64 ((rd_T77 l0 a1).f0))∧w'.cell? ⟨(ad167.add ((a1).toNat*2)).block,(ad167.add ((a1).toNat*2)).off+1,none⟩=some (.int .i64 ((rd_T77 l0 a1).f1))) (ds:=[]) #[O,O,O,O,O,O,O,O,O,O,O] (by kernel_rfl) rfl rfl ⟨hx167_0,hx167_1,hx168_0,hx168_1⟩ (fun hHeld=>?_);refine with_tabW Y8.tab1 Y8.bits1 (fun HT_ HW_=>?_)
      generalize w.drew=w15 at HI3 HK HB hx167_0 hx167_1 hx168_0 hx168_1 hHeld ⊢
      refine pu_ 0 12 #[I,O,O,O,O,O,O,O,O,O,O] HT_.out ?_
      refine pu_ 1 13 #[I,I,O,O,O,O,O,O,O,O,O] HT_.out ?_
      refine pu_ 2 14 #[I,I,I,O,O,O,O,O,O,O,O] HT_.out ?_
      refine pu_ 3 15 #[I,I,I,I,O,O,O,O,O,O,O] HT_.out ?_
      refine pu_ 5 17 #[I,I,I,I,O,I,O,O,O,O,O] HT_.out ?_
      refine pu_ 6 18 #[I,I,I,I,O,I,I,O,O,O,O] HT_.out ?_
      refine pu_ 7 19 #[I,I,I,I,O,I,I,I,O,O,O] HT_.out ?_
      refine tk4_ 4 16 #[I,I,I,I,I,I,I,I,O,O,O] HT_.out HW_.out hHeld ?_
      refine tk4_ 8 20 #[I,I,I,I,I,I,I,I,I,O,O] HT_.out HW_.out hHeld ?_
      refine o1_ 9 21 #[I,I,I,I,I,I,I,I,I,I,O] HT_.out (fun K hK=>?_)
      refine goesD_ Tryd.func78 (by kernel_rfl) rfl #[.agg #[.int .i64 ((rd_T77 l0 a2).f0),.int .i64 ((rd_T77 l0 a2).f1)],.agg #[.int .i64 ((rd_T77 l0 a1).f0),.int .i64 ((rd_T77 l0 a1).f1)]] (by rfl) rfl rfl (by rfl) (z42_) ?_
      with_reducible refine (Y30.calls k ((rd_T77 l0 a2).f0) ((rd_T77 l0 a2).f1) ((rd_T77 l0 a1).f0) ((rd_T77 l0 a1).f1) t169 _ A10.out).mono ?_
      rintro e w16 ⟨rfl,hb⟩
      have HS0_:=(hb.cell (World.block_lt_of_cell? _ _ (hHeld.1))).trans (hHeld.1)
      have HS1_:=(hb.cell (World.block_lt_of_cell? _ _ (hHeld.2.1))).trans (hHeld.2.1)
      have HS2_:=(hb.cell (World.block_lt_of_cell? _ _ (hHeld.2.2.1))).trans (hHeld.2.2.1)
      have HS3_:=(hb.cell (World.block_lt_of_cell? _ _ (hHeld.2.2.2))).trans (hHeld.2.2.2)
      refine ⟨_,rfl,?_⟩
      have n0_:=aM (IsS3.below (z28_ HI3.out) hb)
      have n1_:=aM (KeepBut.trans (z12_ HK.out) (KeepBut.of_below hb g none) (.inl rfl))
      have n2_:=aM (below_step (z18_ HB.out HI3.out) hb)
      clear HI3
      clear HK
      clear HB
      have HI3:=n0_
      have HK:=n1_
      have HB:=n2_
      clear n0_ n1_ n2_
      (try clear hb)
      refine hK.out _ _ ⟨HS0_,HS1_,HS2_,HS3_⟩ (fun hHeld=>?_)
      clear hK K
      refine nm_ 21 ?_
      refine pu_ 10 22 #[I,I,I,I,I,I,I,I,I,I,I] HT_.out ?_
      refine done_ (done_of HT_.out (by kernel_rfl)) ?_
      try go_wp2
      go_ret2
      exact ⟨z9_,z28_ HI3.out,z18_ HB.out HI3.out,z12_ HK.out⟩
    ·rw [if_neg c9] at H
     exact nO H
   ·rw [if_neg c8] at H
    exact nO H
  ·rw [if_neg c7] at H
   exact nO H
 ·rw [if_neg c6] at H
  exact nO H


/-! ### Y17: function 142 -/
def Y17.f (k:Nat) (l0:List (S77)) (a1:Int) (a2:Int) (a3:Int) (s4_0:Int)  : Option (Int × Int):=(Y8.f k l0 a1 a2 s4_0).bind fun bt170=>((Y8.f k l0 bt170.2.1 a3 bt170.2.2).bind fun bt173=>((Y8.f k l0 bt170.1 bt173.1 bt173.2.2).bind fun bt176=>(some (bt176.2.1,bt176.2.2))))
theorem Y17.mono:∀ a0 a1 a2 a3 a4 k,LeO (Y17.f k a0 a1 a2 a3 a4) (Y17.f (k+1) a0 a1 a2 a3 a4):=by
 intro a0 a1 a2 a3 a4 k
 have m0:=@Y8.mono
 unfold Y17.f
 exact mO
theorem Y17.calls (k:Nat) (A0:Option Addr) (c0:Nat) (l0:List (S77)) (a1:Int) (a2:Int) (a3:Int) (g:Nat) (s4_0:Int)  (r1:Int) (r2:Int) (w0 w:World) (hI:IsS3 w0 w g s4_0) (hB:Below w0.heap.size w0 w) (hr0:∀ W_,KeepBut w W_ g none→Kd.C k77 W_ A0 l0.length l0) (hc0:l0.length≤c0) (h:Y17.f k l0 a1 a2 a3 s4_0=some (r1,r2)) :
  Calls Tryd.prog 142 #[.slice A0 l0.length c0,.int .i64 a1,.int .i64 a2,.int .i64 a3,.pointer (some ⟨g,0,none⟩),.func (.func 78) #[] #[]] w fun e w'=>e = .returned (.int .i64 r1)∧IsS3 w0 w' g r2∧Below w0.heap.size w0 w'∧KeepBut w w' g none:=by
 have HR0:=aM hr0
 have HC0:=aM hc0
 clear hr0 hc0
 have HI4:=aM hI
 have HK:=aM (KeepBut.refl w g none)
 have HL:=aM hB.size
 clear hI
 have HW0:=aM hB.size
 have HB:=aM hB
 clear hB
 have H:((Y8.f k l0 a1 a2 s4_0).bind fun bt170=>((Y8.f k l0 bt170.2.1 a3 bt170.2.2).bind fun bt173=>((Y8.f k l0 bt170.1 bt173.1 bt173.2.2).bind fun bt176=>(some (bt176.2.1,bt176.2.2)))))=some (r1,r2):=h
 clear h
 replace H:=bS H
 obtain ⟨⟨t170,t171,t172⟩,A70,H⟩:=H
 replace H:((Y8.f k l0 t171 a3 t172).bind fun bt173=>((Y8.f k l0 t170 bt173.1 bt173.2.2).bind fun bt176=>(some (bt176.2.1,bt176.2.2))))=some (r1,r2):=H
 have A7:=aM A70
 clear A70
 replace H:=bS H
 obtain ⟨⟨t173,t174,t175⟩,A80,H⟩:=H
 replace H:((Y8.f k l0 t170 t173 t175).bind fun bt176=>(some (bt176.2.1,bt176.2.2)))=some (r1,r2):=H
 have A8:=aM A80
 clear A80
 replace H:=bS H
 obtain ⟨⟨t176,t177,t178⟩,A90,H⟩:=H
 replace H:(some (t177,t178))=some (r1,r2):=H
 have A9:=aM A90
 clear A90
 simp only [Option.some.injEq,Prod.mk.injEq] at H
 obtain ⟨rfl,rfl⟩:=H
 go_enter Tryd.func142,Tryd.ntmps142
 go_wp2_with (first | ((with_reducible refine gc_ 148 ?_);refine gl_ (some 19) Tryd.func148 #[.slice A0 l0.length c0,.int .i64 a1,.int .i64 a2,.pointer (some ⟨g,0,none⟩),.func (.func 78) #[] #[]] ?_;(with_reducible refine (Y8.calls k _ _ l0 a1 a2 g s4_0  t170 t171 t172 w0 _ ?s1 ?s2 ?s3 ?s4 A7.out).mono ?_);(case s1=>repeat (first | (with_reducible first | exact HI4.out | apply IsS3.alloc | apply IsS3.drewN | apply IsS3.drew | apply IsS3.set_0) | exact HI4.out));(case s2=>repeat (first | (with_reducible first | exact HB.out | apply below_alloc | apply pw_below_drewN | apply below_drew1 | refine below_set ?_ (IsS3.ge HI4.out)) | exact HB.out));(case s3=>exact Kd.C_foot_step HR0.out (z12_ HK.out));(case s4=>exact HC0.out);rintro e w10 ⟨rfl,hi,hb,hk⟩;refine ⟨_,rfl,?_⟩;have n0_:=aM (KeepBut.trans (z12_ HK.out) hk (.inl rfl));have n1_:=aM (hb);have n2_:=aM (hi);clear HK;clear HB;clear HI4;have HK:=n0_;have HB:=n1_;have HI4:=n2_;clear n0_ n1_ n2_;(try clear hb);(try clear hk);(try clear hi)) | ((with_reducible refine gc_ 148 ?_);refine gl_ (some 28) Tryd.func148 #[.slice A0 l0.length c0,.int .i64 t171,.int .i64 a3,.pointer (some ⟨g,0,none⟩),.func (.func 78) #[] #[]] ?_;(with_reducible refine (Y8.calls k _ _ l0 t171 a3 g t172  t173 t174 t175 w0 _ ?s1 ?s2 ?s3 ?s4 A8.out).mono ?_);(case s1=>repeat (first | (with_reducible first | exact HI4.out | apply IsS3.alloc | apply IsS3.drewN | apply IsS3.drew | apply IsS3.set_0) | exact HI4.out));(case s2=>repeat (first | (with_reducible first | exact HB.out | apply below_alloc | apply pw_below_drewN | apply below_drew1 | refine below_set ?_ (IsS3.ge HI4.out)) | exact HB.out));(case s3=>exact Kd.C_foot_step HR0.out (z12_ HK.out));(case s4=>exact HC0.out);rintro e w11 ⟨rfl,hi,hb,hk⟩;refine ⟨_,rfl,?_⟩;have n0_:=aM (KeepBut.trans (z12_ HK.out) hk (.inl rfl));have n1_:=aM (hb);have n2_:=aM (hi);clear HK;clear HB;clear HI4;have HK:=n0_;have HB:=n1_;have HI4:=n2_;clear n0_ n1_ n2_;(try clear hb);(try clear hk);(try clear hi)) | ((with_reducible refine gc_ 148 ?_);refine gl_ (some 37) Tryd.func148 #[.slice A0 l0.length c0,.int .i64 t170,.int .i64 t173,.pointer (some ⟨g,0,none⟩),.func (.func 78) #[] #[]] ?_;(with_reducible refine (Y8.calls k _ _ l0 t170 t173 g t175  t176 t177 t178 w0 _ ?s1 ?s2 ?s3 ?s4 A9.out).mono ?_);(case s1=>repeat (first | (with_reducible first | exact HI4.out | apply IsS3.alloc | apply IsS3.drewN | apply IsS3.drew | apply IsS3.set_0) | exact HI4.out));(case s2=>repeat (first | (with_reducible first | exact HB.out | apply below_alloc | apply pw_below_drewN | apply below_drew1 | refine below_set ?_ (IsS3.ge HI4.out)) | exact HB.out));(case s3=>exact Kd.C_foot_step HR0.out (z12_ HK.out));(case s4=>exact HC0.out);rintro e w12 ⟨rfl,hi,hb,hk⟩;refine ⟨_,rfl,?_⟩;have n0_:=aM (KeepBut.trans (z12_ HK.out) hk (.inl rfl));have n1_:=aM (hb);have n2_:=aM (hi);clear HK;clear HB;clear HI4;have HK:=n0_;have HB:=n1_;have HI4:=n2_;clear n0_ n1_ n2_;(try clear hb);(try clear hk);(try clear hi)))
 go_ret
 exact ⟨z9_,z28_ HI4.out,z18_ HB.out HI4.out,z12_ HK.out⟩


/-! ### Y14: function 141 -/
def Y14.f (k:Nat) (l0:List (S77)) (a1:Int) (s2_0:Int)  : Option (Int × Int):=(Y17.f k l0 (wrap64 (a1-1)) a1 (wrap64 (a1+1)) s2_0).bind fun bt179=>(some (bt179.1,bt179.2))
theorem Y14.mono:∀ a0 a1 a2 k,LeO (Y14.f k a0 a1 a2) (Y14.f (k+1) a0 a1 a2):=by
 intro a0 a1 a2 k
 have m0:=@Y17.mono
 unfold Y14.f
 exact mO
theorem Y14.calls (k:Nat) (A0:Option Addr) (c0:Nat) (l0:List (S77)) (a1:Int) (g:Nat) (s2_0:Int)  (r1:Int) (r2:Int) (w0 w:World) (hI:IsS3 w0 w g s2_0) (hB:Below w0.heap.size w0 w) (hr0:∀ W_,KeepBut w W_ g none→Kd.C k77 W_ A0 l0.length l0) (hc0:l0.length≤c0) (h:Y14.f k l0 a1 s2_0=some (r1,r2)) :
  Calls Tryd.prog 141 #[.slice A0 l0.length c0,.int .i64 a1,.pointer (some ⟨g,0,none⟩),.func (.func 78) #[] #[]] w fun e w'=>e = .returned (.int .i64 r1)∧IsS3 w0 w' g r2∧Below w0.heap.size w0 w'∧KeepBut w w' g none:=by
 have HR0:=aM hr0
 have HC0:=aM hc0
 clear hr0 hc0
 have HI2:=aM hI
 have HK:=aM (KeepBut.refl w g none)
 have HL:=aM hB.size
 clear hI
 have HW0:=aM hB.size
 have HB:=aM hB
 clear hB
 have H:((Y17.f k l0 (wrap64 (a1-1)) a1 (wrap64 (a1+1)) s2_0).bind fun bt179=>(some (bt179.1,bt179.2)))=some (r1,r2):=h
 clear h
 replace H:=bS H
 obtain ⟨⟨t179,t180⟩,A50,H⟩:=H
 replace H:(some (t179,t180))=some (r1,r2):=H
 have A5:=aM A50
 clear A50
 simp only [Option.some.injEq,Prod.mk.injEq] at H
 obtain ⟨rfl,rfl⟩:=H
 go_enter Tryd.func141,Tryd.ntmps141
 go_wp2_with (first | ((with_reducible refine gc_ 142 ?_);refine gl_ (some 17) Tryd.func142 #[.slice A0 l0.length c0,.int .i64 (wrap64 (a1-1)),.int .i64 a1,.int .i64 (wrap64 (a1+1)),.pointer (some ⟨g,0,none⟩),.func (.func 78) #[] #[]] ?_;(with_reducible refine (Y17.calls k _ _ l0 (wrap64 (a1-1)) a1 (wrap64 (a1+1)) g s2_0  t179 t180 w0 _ ?s1 ?s2 ?s3 ?s4 A5.out).mono ?_);(case s1=>repeat (first | (with_reducible first | exact HI2.out | apply IsS3.alloc | apply IsS3.drewN | apply IsS3.drew | apply IsS3.set_0) | exact HI2.out));(case s2=>repeat (first | (with_reducible first | exact HB.out | apply below_alloc | apply pw_below_drewN | apply below_drew1 | refine below_set ?_ (IsS3.ge HI2.out)) | exact HB.out));(case s3=>exact Kd.C_foot_step HR0.out (z12_ HK.out));(case s4=>exact HC0.out);rintro e w6 ⟨rfl,hi,hb,hk⟩;refine ⟨_,rfl,?_⟩;have n0_:=aM (KeepBut.trans (z12_ HK.out) hk (.inl rfl));have n1_:=aM (hb);have n2_:=aM (hi);clear HK;clear HB;clear HI2;have HK:=n0_;have HB:=n1_;have HI2:=n2_;clear n0_ n1_ n2_;(try clear hb);(try clear hk);(try clear hi)))
 go_ret
 exact ⟨z9_,z28_ HI2.out,z18_ HB.out HI2.out,z12_ HK.out⟩


/-! ### Y5: function 125 -/
def Y5.j0:Nat→Int→Int→Option (Int × Int)
 | 0,_,_=>none
 | k+1,x13,x182000=>if x182000=0 then (some (x13,1)) else (if x182000=12 then (some (x13,2)) else (some (x13,0)))
def Y5.f (k:Nat) (l0:List (S77)) (a1:Int) (a2:Int)  : Option (Int × Int):=if (wrap64 (a2-a1))≥8 then (if (wrap64 (a2-a1))≥50 then ((Y14.f k l0 (wrap64 (a1+(wrap64 ((wrap64 (Int.tdiv (wrap64 (a2-a1)) 4)))))) 0).bind fun bt182=>((Y14.f k l0 (wrap64 (a1+(wrap64 ((wrap64 (Int.tdiv (wrap64 (a2-a1)) 4))*2)))) bt182.2).bind fun bt184=>((Y14.f k l0 (wrap64 (a1+(wrap64 ((wrap64 (Int.tdiv (wrap64 (a2-a1)) 4))*3)))) bt184.2).bind fun bt186=>((Y17.f k l0 bt182.1 bt184.1 bt186.1 bt186.2).bind fun bt188=>(Y5.j0 k bt188.1 bt188.2))))) else ((Y17.f k l0 (wrap64 (a1+(wrap64 ((wrap64 (Int.tdiv (wrap64 (a2-a1)) 4)))))) (wrap64 (a1+(wrap64 ((wrap64 (Int.tdiv (wrap64 (a2-a1)) 4))*2)))) (wrap64 (a1+(wrap64 ((wrap64 (Int.tdiv (wrap64 (a2-a1)) 4))*3)))) 0).bind fun bt190=>(Y5.j0 k bt190.1 bt190.2))) else (Y5.j0 k (wrap64 (a1+(wrap64 ((wrap64 (Int.tdiv (wrap64 (a2-a1)) 4))*2)))) 0)
theorem Y5.mono_l:∀ k,(∀ y0 y1,LeO (Y5.j0 k y0 y1) (Y5.j0 (k+1) y0 y1))
 | 0=>by intros <;> exact LeO.none _
 | k+1=>by
  have ih0:=Y5.mono_l k
  have m0:=@Y14.mono
  have m1:=@Y17.mono
  ·intros
   unfold Y5.j0
   exact mO
theorem Y5.mono:∀ a0 a1 a2 k,LeO (Y5.f k a0 a1 a2) (Y5.f (k+1) a0 a1 a2):=by
 intro a0 a1 a2 k
 have m0:=@Y14.mono
 have m1:=@Y17.mono
 have ih0:=Y5.mono_l k
 unfold Y5.f
 exact mO
theorem Y5.calls (k:Nat) (A0:Option Addr) (c0:Nat) (l0:List (S77)) (a1:Int) (a2:Int)  (r1:Int) (r2:Int) (w:World) (hr0:Kd.C k77 w A0 l0.length l0) (hc0:l0.length≤c0) (h:Y5.f k l0 a1 a2=some (r1,r2)) :
  Calls Tryd.prog 125 #[.slice A0 l0.length c0,.int .i64 a1,.int .i64 a2,.func (.func 78) #[] #[]] w fun e w'=>e = .returned (.tuple #[.int .i64 r1,.int .i64 r2])∧Below w.heap.size w w':=by
 have HR0:=aM hr0
 have HC0:=aM hc0
 clear hr0 hc0
 have HB:=aM (Below.refl w.heap.size w)
 have H:(if (wrap64 (a2-a1))≥8 then (if (wrap64 (a2-a1))≥50 then ((Y14.f k l0 (wrap64 (a1+(wrap64 ((wrap64 (Int.tdiv (wrap64 (a2-a1)) 4)))))) 0).bind fun bt182=>((Y14.f k l0 (wrap64 (a1+(wrap64 ((wrap64 (Int.tdiv (wrap64 (a2-a1)) 4))*2)))) bt182.2).bind fun bt184=>((Y14.f k l0 (wrap64 (a1+(wrap64 ((wrap64 (Int.tdiv (wrap64 (a2-a1)) 4))*3)))) bt184.2).bind fun bt186=>((Y17.f k l0 bt182.1 bt184.1 bt186.1 bt186.2).bind fun bt188=>(Y5.j0 k bt188.1 bt188.2))))) else ((Y17.f k l0 (wrap64 (a1+(wrap64 ((wrap64 (Int.tdiv (wrap64 (a2-a1)) 4)))))) (wrap64 (a1+(wrap64 ((wrap64 (Int.tdiv (wrap64 (a2-a1)) 4))*2)))) (wrap64 (a1+(wrap64 ((wrap64 (Int.tdiv (wrap64 (a2-a1)) 4))*3)))) 0).bind fun bt190=>(Y5.j0 k bt190.1 bt190.2))) else (Y5.j0 k (wrap64 (a1+(wrap64 ((wrap64 (Int.tdiv (wrap64 (a2-a1)) 4))*2)))) 0))=some (r1,r2):=h
 clear h
 have HC5:=aM H
 clear H
 go_enter Tryd.func125,Tryd.ntmps125
 go_upto_if 34 with (first | ((with_reducible refine gd_ 11 ?_);refine be_ 11 #[.int .i64 0] 3 ?_;intro gb181 hg w6 hbox hb;have n0_:=aM (below_step (z5_ HB.out) hb);have n1_:=aM ((show IsS3 w w6 gb181 0 from ⟨hbox,(z8_ HB.out:w.heap.size≤gb181)⟩));have n2_:=aM ((z8_ HB.out:w.heap.size≤gb181));have n3_:=aM ((z8_ HB.out:w.heap.size≤gb181));clear HB;have HB:=n0_;have HI181:=n1_;have GW181:=n2_;have GE181:=n3_;clear n0_ n1_ n2_ n3_;clear hb hbox hg))
 (try simp only [Act.put,sa_,s0_,ss_])
 go_cut [13] (fun v13 wc=>∃ (kq:Nat) (x13_4:Int) (x182000_4:Int),v13 = .int .i64 x13_4∧Aside0 (Y5.j0 kq x13_4 x182000_4=some (r1,r2))∧Aside0 (kq≤k)∧Aside0 (IsS3 w wc gb181 x182000_4)∧Aside0 (Below w.heap.size w wc))
 case first =>
  have H:=HC5.out
  clear HC5
  by_cases c7:(wrap64 (a2-a1))≥8
  ·rw [if_pos c7] at H
   have c7b0:decide (8≤(wrap64 (a2-a1)))=true:=dE c7
   clear c7
   (first | rw [c7b0] | (simp only [i64_w,i32_w];rw [c7b0]) | skip)
   by_cases c8:(wrap64 (a2-a1))≥50
   ·rw [if_pos c8] at H
    have c8b0:decide (50≤(wrap64 (a2-a1)))=true:=dE c8
    clear c8
    replace H:=bS H
    obtain ⟨⟨t182,t183⟩,A90,H⟩:=H
    replace H:((Y14.f k l0 (wrap64 (a1+(wrap64 ((wrap64 (Int.tdiv (wrap64 (a2-a1)) 4))*2)))) t183).bind fun bt184=>((Y14.f k l0 (wrap64 (a1+(wrap64 ((wrap64 (Int.tdiv (wrap64 (a2-a1)) 4))*3)))) bt184.2).bind fun bt186=>((Y17.f k l0 t182 bt184.1 bt186.1 bt186.2).bind fun bt188=>(Y5.j0 k bt188.1 bt188.2))))=some (r1,r2):=H
    have A9:=aM A90
    clear A90
    replace H:=bS H
    obtain ⟨⟨t184,t185⟩,A100,H⟩:=H
    replace H:((Y14.f k l0 (wrap64 (a1+(wrap64 ((wrap64 (Int.tdiv (wrap64 (a2-a1)) 4))*3)))) t185).bind fun bt186=>((Y17.f k l0 t182 t184 bt186.1 bt186.2).bind fun bt188=>(Y5.j0 k bt188.1 bt188.2)))=some (r1,r2):=H
    have A10:=aM A100
    clear A100
    replace H:=bS H
    obtain ⟨⟨t186,t187⟩,A110,H⟩:=H
    replace H:((Y17.f k l0 t182 t184 t186 t187).bind fun bt188=>(Y5.j0 k bt188.1 bt188.2))=some (r1,r2):=H
    have A11:=aM A110
    clear A110
    replace H:=bS H
    obtain ⟨⟨t188,t189⟩,A120,H⟩:=H
    replace H:(Y5.j0 k t188 t189)=some (r1,r2):=H
    have A12:=aM A120
    clear A120
    have H':=aM H
    clear H
    go_wp2_with (first | ((with_reducible refine gc_ 141 ?_);refine gl_ (some 40) Tryd.func141 #[.slice A0 l0.length c0,.int .i64 (wrap64 (a1+(wrap64 ((wrap64 (Int.tdiv (wrap64 (a2-a1)) 4)))))),.pointer (some ⟨gb181,0,none⟩),.func (.func 78) #[] #[]] ?_;(with_reducible refine (Y14.calls k _ _ l0 (wrap64 (a1+(wrap64 ((wrap64 (Int.tdiv (wrap64 (a2-a1)) 4)))))) gb181 0  t182 t183 w _ ?s1 ?s2 ?s3 ?s4 A9.out).mono ?_);(case s1=>repeat (first | (with_reducible first | exact HI181.out | apply IsS3.alloc | apply IsS3.drewN | apply IsS3.drew | apply IsS3.set_0) | exact HI181.out));(case s2=>repeat (first | (with_reducible first | exact HB.out | apply below_alloc | apply pw_below_drewN | apply below_drew1 | refine below_set ?_ (IsS3.ge HI181.out)) | exact HB.out));(case s3=>exact Kd.C_foot_came k77_heap HR0.out (z18_ HB.out HI181.out) (IsS3.ge HI181.out));(case s4=>exact HC0.out);rintro e w13 ⟨rfl,hi,hb,hk⟩;refine ⟨_,rfl,?_⟩;have n0_:=aM (hb);have n1_:=aM (hi);clear HB;clear HI181;have HB:=n0_;have HI181:=n1_;clear n0_ n1_;(try clear hb);(try clear hk);(try clear hi)) | ((with_reducible refine gc_ 141 ?_);refine gl_ (some 44) Tryd.func141 #[.slice A0 l0.length c0,.int .i64 (wrap64 (a1+(wrap64 ((wrap64 (Int.tdiv (wrap64 (a2-a1)) 4))*2)))),.pointer (some ⟨gb181,0,none⟩),.func (.func 78) #[] #[]] ?_;(with_reducible refine (Y14.calls k _ _ l0 (wrap64 (a1+(wrap64 ((wrap64 (Int.tdiv (wrap64 (a2-a1)) 4))*2)))) gb181 t183  t184 t185 w _ ?s1 ?s2 ?s3 ?s4 A10.out).mono ?_);(case s1=>repeat (first | (with_reducible first | exact HI181.out | apply IsS3.alloc | apply IsS3.drewN | apply IsS3.drew | apply IsS3.set_0) | exact HI181.out));(case s2=>repeat (first | (with_reducible first | exact HB.out | apply below_alloc | apply pw_below_drewN | apply below_drew1 | refine below_set ?_ (IsS3.ge HI181.out)) | exact HB.out));(case s3=>exact Kd.C_foot_came k77_heap HR0.out (z18_ HB.out HI181.out) (IsS3.ge HI181.out));(case s4=>exact HC0.out);rintro e w14 ⟨rfl,hi,hb,hk⟩;refine ⟨_,rfl,?_⟩;have n0_:=aM (hb);have n1_:=aM (hi);clear HB;clear HI181;have HB:=n0_;have HI181:=n1_;clear n0_ n1_;(try clear hb);(try clear hk);(try clear hi)) | ((with_reducible refine gc_ 141 ?_);refine gl_ (some 48) Tryd.func141 #[.slice A0 l0.length c0,.int .i64 (wrap64 (a1+(wrap64 ((wrap64 (Int.tdiv (wrap64 (a2-a1)) 4))*3)))),.pointer (some ⟨gb181,0,none⟩),.func (.func 78) #[] #[]] ?_;(with_reducible refine (Y14.calls k _ _ l0 (wrap64 (a1+(wrap64 ((wrap64 (Int.tdiv (wrap64 (a2-a1)) 4))*3)))) gb181 t185  t186 t187 w _ ?s1 ?s2 ?s3 ?s4 A11.out).mono ?_);(case s1=>repeat (first | (with_reducible first | exact HI181.out | apply IsS3.alloc | apply IsS3.drewN | apply IsS3.drew | apply IsS3.set_0) | exact HI181.out));(case s2=>repeat (first | (with_reducible first | exact HB.out | apply below_alloc | apply pw_below_drewN | apply below_drew1 | refine below_set ?_ (IsS3.ge HI181.out)) | exact HB.out));(case s3=>exact Kd.C_foot_came k77_heap HR0.out (z18_ HB.out HI181.out) (IsS3.ge HI181.out));(case s4=>exact HC0.out);rintro e w15 ⟨rfl,hi,hb,hk⟩;refine ⟨_,rfl,?_⟩;have n0_:=aM (hb);have n1_:=aM (hi);clear HB;clear HI181;have HB:=n0_;have HI181:=n1_;clear n0_ n1_;(try clear hb);(try clear hk);(try clear hi)) | ((with_reducible refine gc_ 142 ?_);refine gl_ (some 54) Tryd.func142 #[.slice A0 l0.length c0,.int .i64 t182,.int .i64 t184,.int .i64 t186,.pointer (some ⟨gb181,0,none⟩),.func (.func 78) #[] #[]] ?_;(with_reducible refine (Y17.calls k _ _ l0 t182 t184 t186 gb181 t187  t188 t189 w _ ?s1 ?s2 ?s3 ?s4 A12.out).mono ?_);(case s1=>repeat (first | (with_reducible first | exact HI181.out | apply IsS3.alloc | apply IsS3.drewN | apply IsS3.drew | apply IsS3.set_0) | exact HI181.out));(case s2=>repeat (first | (with_reducible first | exact HB.out | apply below_alloc | apply pw_below_drewN | apply below_drew1 | refine below_set ?_ (IsS3.ge HI181.out)) | exact HB.out));(case s3=>exact Kd.C_foot_came k77_heap HR0.out (z18_ HB.out HI181.out) (IsS3.ge HI181.out));(case s4=>exact HC0.out);rintro e w16 ⟨rfl,hi,hb,hk⟩;refine ⟨_,rfl,?_⟩;have n0_:=aM (hb);have n1_:=aM (hi);clear HB;clear HI181;have HB:=n0_;have HI181:=n1_;clear n0_ n1_;(try clear hb);(try clear hk);(try clear hi)))
    go_meet
    case rel=>exact ⟨_,(t188),(t189),(z2_),H',⟨by first | omega | exact Nat.le_refl _⟩,⟨z28_ HI181.out⟩,⟨z18_ HB.out HI181.out⟩⟩
   ·rw [if_neg c8] at H
    have c8b0:decide (50≤(wrap64 (a2-a1)))=false:=dF c8
    clear c8
    replace H:=bS H
    obtain ⟨⟨t190,t191⟩,A170,H⟩:=H
    replace H:(Y5.j0 k t190 t191)=some (r1,r2):=H
    have A17:=aM A170
    clear A170
    have H':=aM H
    clear H
    go_wp2_with (first | ((with_reducible refine gc_ 142 ?_);refine gl_ (some 54) Tryd.func142 #[.slice A0 l0.length c0,.int .i64 (wrap64 (a1+(wrap64 ((wrap64 (Int.tdiv (wrap64 (a2-a1)) 4)))))),.int .i64 (wrap64 (a1+(wrap64 ((wrap64 (Int.tdiv (wrap64 (a2-a1)) 4))*2)))),.int .i64 (wrap64 (a1+(wrap64 ((wrap64 (Int.tdiv (wrap64 (a2-a1)) 4))*3)))),.pointer (some ⟨gb181,0,none⟩),.func (.func 78) #[] #[]] ?_;(with_reducible refine (Y17.calls k _ _ l0 (wrap64 (a1+(wrap64 ((wrap64 (Int.tdiv (wrap64 (a2-a1)) 4)))))) (wrap64 (a1+(wrap64 ((wrap64 (Int.tdiv (wrap64 (a2-a1)) 4))*2)))) (wrap64 (a1+(wrap64 ((wrap64 (Int.tdiv (wrap64 (a2-a1)) 4))*3)))) gb181 0  t190 t191 w _ ?s1 ?s2 ?s3 ?s4 A17.out).mono ?_);(case s1=>repeat (first | (with_reducible first | exact HI181.out | apply IsS3.alloc | apply IsS3.drewN | apply IsS3.drew | apply IsS3.set_0) | exact HI181.out));(case s2=>repeat (first | (with_reducible first | exact HB.out | apply below_alloc | apply pw_below_drewN | apply below_drew1 | refine below_set ?_ (IsS3.ge HI181.out)) | exact HB.out));(case s3=>exact Kd.C_foot_came k77_heap HR0.out (z18_ HB.out HI181.out) (IsS3.ge HI181.out));(case s4=>exact HC0.out);rintro e w18 ⟨rfl,hi,hb,hk⟩;refine ⟨_,rfl,?_⟩;have n0_:=aM (hb);have n1_:=aM (hi);clear HB;clear HI181;have HB:=n0_;have HI181:=n1_;clear n0_ n1_;(try clear hb);(try clear hk);(try clear hi)))
    go_meet
    case rel=>exact ⟨_,(t190),(t191),(z2_),H',⟨by first | omega | exact Nat.le_refl _⟩,⟨z28_ HI181.out⟩,⟨z18_ HB.out HI181.out⟩⟩
  ·rw [if_neg c7] at H
   have c7b0:decide (8≤(wrap64 (a2-a1)))=false:=dF c7
   clear c7
   (first | rw [c7b0] | (simp only [i64_w,i32_w];rw [c7b0]) | skip)
   have H':=aM H
   clear H
   go_wp2
   go_meet
   case rel=>exact ⟨_,(wrap64 (a1+(wrap64 ((wrap64 (Int.tdiv (wrap64 (a2-a1)) 4))*2)))),(0),(z2_),H',⟨by first | omega | exact Nat.le_refl _⟩,⟨z28_ HI181.out⟩,⟨z18_ HB.out HI181.out⟩⟩
 case rest =>
  clear HC5
  try clear p2
  try clear p6
  try clear c7
  try clear c7b0
  try clear c8
  try clear c8b0
  obtain ⟨kq,x13_4,x182000_4,rfl,HA,HJ4,HI181,HB⟩:=hcut
  cases kq with
  | zero=>exact absurd HA.out (by simp [Y5.j0])
  | succ kj4 =>
   have H:=HA.out
   clear HA
   simp only [Y5.j0] at H
   by_cases c19:x182000_4=0
   ·rw [if_pos c19] at H
    have c19b0:(x182000_4 == 0)=true:=beq_iff_eq.mpr c19
    have c19b1:(x182000_4 != 0)=false:=bne_eq_false_iff_eq.mpr c19
    clear c19
    simp only [Option.some.injEq,Prod.mk.injEq] at H
    obtain ⟨rfl,rfl⟩:=H
    obtain ⟨HGz20,hgz20⟩:=HI181.out
    have hcz20_0:=cellS3_0 HGz20
    have hfz20_0:=blk_frozen HGz20 0
    clear HGz20 hgz20
    go_wp2
    go_ret2
    exact ⟨z9_,z18_ HB.out HI181.out⟩
   ·rw [if_neg c19] at H
    have c19b0:(x182000_4 == 0)=false:=beq_eq_false_iff_ne.mpr c19
    have c19b1:(x182000_4 != 0)=true:=bne_iff_ne.mpr c19
    by_cases c21:x182000_4=12
    ·rw [if_pos c21] at H
     have c21b0:(x182000_4 == 12)=true:=beq_iff_eq.mpr c21
     have c21b1:(x182000_4 != 12)=false:=bne_eq_false_iff_eq.mpr c21
     clear c21
     simp only [Option.some.injEq,Prod.mk.injEq] at H
     obtain ⟨rfl,rfl⟩:=H
     obtain ⟨HGz22,hgz22⟩:=HI181.out
     have hcz22_0:=cellS3_0 HGz22
     have hfz22_0:=blk_frozen HGz22 0
     clear HGz22 hgz22
     go_wp2
     go_ret2
     exact ⟨z9_,z18_ HB.out HI181.out⟩
    ·rw [if_neg c21] at H
     have c21b0:(x182000_4 == 12)=false:=beq_eq_false_iff_ne.mpr c21
     have c21b1:(x182000_4 != 12)=true:=bne_iff_ne.mpr c21
     simp only [Option.some.injEq,Prod.mk.injEq] at H
     obtain ⟨rfl,rfl⟩:=H
     obtain ⟨HGz23,hgz23⟩:=HI181.out
     have hcz23_0:=cellS3_0 HGz23
     have hfz23_0:=blk_frozen HGz23 0
     clear HGz23 hgz23
     go_wp2
     go_ret2
     exact ⟨z9_,z18_ HB.out HI181.out⟩


/-! ### Y44: function 126 -/
def Y44.f (l0:List (S77)) (a1:Int) (a2:Int)  : Option (Unit):=none
theorem Y44.calls (A0:Option Addr) (c0:Nat) (l0:List (S77)) (a1:Int) (a2:Int)  (w:World) (hr0:Kd.C k77 w A0 l0.length l0) (hc0:l0.length≤c0) (h:Y44.f l0 a1 a2=some ()) :
  Calls Tryd.prog 126 #[.slice A0 l0.length c0,.int .i64 a1,.int .i64 a2,.func (.func 78) #[] #[]] w fun e w'=>e = .returned (.tuple #[])∧Drawn0 w w':=by
 have HR0:=aM hr0
 have HC0:=aM hc0
 clear hr0 hc0
 have H:(none)=some ():=h
 clear h
 exact nO H


/-! ### Y35: function 127 -/
def Y35.f (l0:List (S77)) (a1:Int) (a2:Int)  : Option (Bool):=none
theorem Y35.calls (A0:Option Addr) (c0:Nat) (l0:List (S77)) (a1:Int) (a2:Int)  (r:Bool) (w:World) (hr0:Kd.C k77 w A0 l0.length l0) (hc0:l0.length≤c0) (h:Y35.f l0 a1 a2=some r) :
  Calls Tryd.prog 127 #[.slice A0 l0.length c0,.int .i64 a1,.int .i64 a2,.func (.func 78) #[] #[]] w fun e w'=>e = .returned (.bool r)∧Drawn0 w w':=by
 have HR0:=aM hr0
 have HC0:=aM hc0
 clear hr0 hc0
 have H:(none)=some r:=h
 clear h
 exact nO H


/-! ### Y42: function 128 -/
def Y42.f (l0:List (S77)) (a1:Int) (a2:Int) (a3:Int)  : Option (Int):=none
theorem Y42.calls (A0:Option Addr) (c0:Nat) (l0:List (S77)) (a1:Int) (a2:Int) (a3:Int)  (r:Int) (w:World) (hr0:Kd.C k77 w A0 l0.length l0) (hc0:l0.length≤c0) (h:Y42.f l0 a1 a2 a3=some r) :
  Calls Tryd.prog 128 #[.slice A0 l0.length c0,.int .i64 a1,.int .i64 a2,.int .i64 a3,.func (.func 78) #[] #[]] w fun e w'=>e = .returned (.int .i64 r)∧Drawn0 w w':=by
 have HR0:=aM hr0
 have HC0:=aM hc0
 clear hr0 hc0
 have H:(none)=some r:=h
 clear h
 exact nO H


/-! ### Y0: function 129 -/
mutual
def Y0.l0:Nat→List (S77)→Int→Int→Int→Option (Int × Bool × (List (S77)))
 | 0,_,_,_,_=>none
 | k+1,x0,x1,x12,x13=>if x12≤x13 then (if 0≤x12 then (if x12<(x0.length:Int) then (if 0≤x1 then (if x1<(x0.length:Int) then ((Y30.f k ((rd_T77 x0 x12).f0) ((rd_T77 x0 x12).f1) ((rd_T77 x0 x1).f0) ((rd_T77 x0 x1).f1)).bind fun t198=>(Y0.j1 k x0 x1 x12 x13 (decide (t198<0)))) else (none)) else (none)) else (none)) else (none)) else (Y0.j1 k x0 x1 x12 x13 false)
def Y0.j1:Nat→List (S77)→Int→Int→Int→Bool→Option (Int × Bool × (List (S77)))
 | 0,_,_,_,_,_=>none
 | k+1,x0,x1,x12,x13,x47=>if x47=true then (Y0.l0 k x0 x1 (wrap64 (x12+1)) x13) else (Y0.l1 k x0 x1 x12 x13)
def Y0.l1:Nat→List (S77)→Int→Int→Int→Option (Int × Bool × (List (S77)))
 | 0,_,_,_,_=>none
 | k+1,x0,x1,x12,x13=>if x12≤x13 then (if 0≤x13 then (if x13<(x0.length:Int) then (if 0≤x1 then (if x1<(x0.length:Int) then ((Y30.f k ((rd_T77 x0 x13).f0) ((rd_T77 x0 x13).f1) ((rd_T77 x0 x1).f0) ((rd_T77 x0 x1).f1)).bind fun t201=>(Y0.j3 k x0 x1 x12 x13 (!(decide (t201<0))))) else (none)) else (none)) else (none)) else (none)) else (Y0.j3 k x0 x1 x12 x13 false)
def Y0.j3:Nat→List (S77)→Int→Int→Int→Bool→Option (Int × Bool × (List (S77)))
 | 0,_,_,_,_,_=>none
 | k+1,x0,x1,x12,x13,x66=>if x66=true then (Y0.l1 k x0 x1 x12 (wrap64 (x13-1))) else (if x12>x13 then (if 0≤x1 then (if x1<(x0.length:Int) then (if 0≤x13 then (if x13<(x0.length:Int) then (some (x13,true,((x0.set (x13:Int).toNat (⟨(rd_T77 x0 x1).f0,(rd_T77 x0 x1).f1⟩:S77)).set (x1:Int).toNat (⟨(rd_T77 x0 x13).f0,(rd_T77 x0 x13).f1⟩:S77)))) else (none)) else (none)) else (none)) else (none)) else (if 0≤x13 then (if x13<(x0.length:Int) then (if 0≤x12 then (if x12<(x0.length:Int) then (Y0.l2 k ((x0.set (x12:Int).toNat (⟨(rd_T77 x0 x13).f0,(rd_T77 x0 x13).f1⟩:S77)).set (x13:Int).toNat (⟨(rd_T77 x0 x12).f0,(rd_T77 x0 x12).f1⟩:S77)) x1 (wrap64 (x12+1)) (wrap64 (x13-1))) else (none)) else (none)) else (none)) else (none)))
def Y0.l2:Nat→List (S77)→Int→Int→Int→Option (Int × Bool × (List (S77)))
 | 0,_,_,_,_=>none
 | k+1,x0,x1,x12,x13=>Y0.l3 k x0 x1 x12 x13
def Y0.l3:Nat→List (S77)→Int→Int→Int→Option (Int × Bool × (List (S77)))
 | 0,_,_,_,_=>none
 | k+1,x0,x1,x12,x13=>if x12≤x13 then (if 0≤x12 then (if x12<(x0.length:Int) then (if 0≤x1 then (if x1<(x0.length:Int) then ((Y30.f k ((rd_T77 x0 x12).f0) ((rd_T77 x0 x12).f1) ((rd_T77 x0 x1).f0) ((rd_T77 x0 x1).f1)).bind fun t212=>(Y0.j6 k x0 x1 x12 x13 (decide (t212<0)))) else (none)) else (none)) else (none)) else (none)) else (Y0.j6 k x0 x1 x12 x13 false)
def Y0.j6:Nat→List (S77)→Int→Int→Int→Bool→Option (Int × Bool × (List (S77)))
 | 0,_,_,_,_,_=>none
 | k+1,x0,x1,x12,x13,x120=>if x120=true then (Y0.l3 k x0 x1 (wrap64 (x12+1)) x13) else (Y0.l4 k x0 x1 x12 x13)
def Y0.l4:Nat→List (S77)→Int→Int→Int→Option (Int × Bool × (List (S77)))
 | 0,_,_,_,_=>none
 | k+1,x0,x1,x12,x13=>if x12≤x13 then (if 0≤x13 then (if x13<(x0.length:Int) then (if 0≤x1 then (if x1<(x0.length:Int) then ((Y30.f k ((rd_T77 x0 x13).f0) ((rd_T77 x0 x13).f1) ((rd_T77 x0 x1).f0) ((rd_T77 x0 x1).f1)).bind fun t215=>(Y0.j8 k x0 x1 x12 x13 (!(decide (t215<0))))) else (none)) else (none)) else (none)) else (none)) else (Y0.j8 k x0 x1 x12 x13 false)
def Y0.j8:Nat→List (S77)→Int→Int→Int→Bool→Option (Int × Bool × (List (S77)))
 | 0,_,_,_,_,_=>none
 | k+1,x0,x1,x12,x13,x139=>if x139=true then (Y0.l4 k x0 x1 x12 (wrap64 (x13-1))) else (if x12>x13 then (if 0≤x1 then (if x1<(x0.length:Int) then (if 0≤x13 then (if x13<(x0.length:Int) then (some (x13,false,((x0.set (x13:Int).toNat (⟨(rd_T77 x0 x1).f0,(rd_T77 x0 x1).f1⟩:S77)).set (x1:Int).toNat (⟨(rd_T77 x0 x13).f0,(rd_T77 x0 x13).f1⟩:S77)))) else (none)) else (none)) else (none)) else (none)) else (if 0≤x13 then (if x13<(x0.length:Int) then (if 0≤x12 then (if x12<(x0.length:Int) then (Y0.l2 k ((x0.set (x12:Int).toNat (⟨(rd_T77 x0 x13).f0,(rd_T77 x0 x13).f1⟩:S77)).set (x13:Int).toNat (⟨(rd_T77 x0 x12).f0,(rd_T77 x0 x12).f1⟩:S77)) x1 (wrap64 (x12+1)) (wrap64 (x13-1))) else (none)) else (none)) else (none)) else (none)))
end
def Y0.f (k:Nat) (l0:List (S77)) (a1:Int) (a2:Int) (a3:Int)  : Option (Int × Bool × (List (S77))):=if 0≤a3 then (if a3<(l0.length:Int) then (if 0≤a1 then (if a1<(l0.length:Int) then (Y0.l0 k ((l0.set (a1:Int).toNat (⟨(rd_T77 l0 a3).f0,(rd_T77 l0 a3).f1⟩:S77)).set (a3:Int).toNat (⟨(rd_T77 l0 a1).f0,(rd_T77 l0 a1).f1⟩:S77)) a1 (wrap64 (a1+1)) (wrap64 (a2-1))) else (none)) else (none)) else (none)) else (none)
theorem Y0.mono_l:∀ k,(∀ y0 y1 y2 y3,LeO (Y0.l0 k y0 y1 y2 y3) (Y0.l0 (k+1) y0 y1 y2 y3))∧(∀ y0 y1 y2 y3 y4,LeO (Y0.j1 k y0 y1 y2 y3 y4) (Y0.j1 (k+1) y0 y1 y2 y3 y4))∧(∀ y0 y1 y2 y3,LeO (Y0.l1 k y0 y1 y2 y3) (Y0.l1 (k+1) y0 y1 y2 y3))∧(∀ y0 y1 y2 y3 y4,LeO (Y0.j3 k y0 y1 y2 y3 y4) (Y0.j3 (k+1) y0 y1 y2 y3 y4))∧(∀ y0 y1 y2 y3,LeO (Y0.l2 k y0 y1 y2 y3) (Y0.l2 (k+1) y0 y1 y2 y3))∧(∀ y0 y1 y2 y3,LeO (Y0.l3 k y0 y1 y2 y3) (Y0.l3 (k+1) y0 y1 y2 y3))∧(∀ y0 y1 y2 y3 y4,LeO (Y0.j6 k y0 y1 y2 y3 y4) (Y0.j6 (k+1) y0 y1 y2 y3 y4))∧(∀ y0 y1 y2 y3,LeO (Y0.l4 k y0 y1 y2 y3) (Y0.l4 (k+1) y0 y1 y2 y3))∧(∀ y0 y1 y2 y3 y4,LeO (Y0.j8 k y0 y1 y2 y3 y4) (Y0.j8 (k+1) y0 y1 y2 y3 y4))
 | 0=>by refine ⟨?_,?_,?_,?_,?_,?_,?_,?_,?_⟩ <;> intros <;> exact LeO.none _
 | k+1=>by
  obtain ⟨ih0,ih1,ih2,ih3,ih4,ih5,ih6,ih7,ih8⟩:=Y0.mono_l k
  have m0:=@Y30.mono
  refine ⟨?_,?_,?_,?_,?_,?_,?_,?_,?_⟩
  ·intros
   unfold Y0.l0
   exact mO
  ·intros
   unfold Y0.j1
   exact mO
  ·intros
   unfold Y0.l1
   exact mO
  ·intros
   unfold Y0.j3
   exact mO
  ·intros
   unfold Y0.l2
   exact mO
  ·intros
   unfold Y0.l3
   exact mO
  ·intros
   unfold Y0.j6
   exact mO
  ·intros
   unfold Y0.l4
   exact mO
  ·intros
   unfold Y0.j8
   exact mO
theorem Y0.mono:∀ a0 a1 a2 a3 k,LeO (Y0.f k a0 a1 a2 a3) (Y0.f (k+1) a0 a1 a2 a3):=by
 intro a0 a1 a2 a3 k
 have m0:=@Y30.mono
 obtain ⟨ih0,ih1,ih2,ih3,ih4,ih5,ih6,ih7,ih8⟩:=Y0.mono_l k
 unfold Y0.f
 exact mO
def Y0.T1:Bool × List (List Nat × List Nat):=(true,[([],[]),([],[]),([],[]),([],[]),([],[]),([],[]),([4,5],[4,5]),([6],[6]),([],[]),([],[]),([8,9],[8,9]),([10],[10]),([0,1,0,1,4,5,6,7,11],[0,1]),([12,7,0,1,4,5,6,7,11],[7,12]),([2,3,0,1,2,3,4,5,6,7,8,9,10,11,12,13],[2,3]),([14,11,13,0,1,2,3,4,5,6,7,8,9,10,11,12,13],[11,14])])
def Y0.B1:List Nat:=[0,0,0,0,0,0,48,112,0,0,768,1792,4083,8179,16383,32767]
theorem Y0.tab1:rtab .any (opsOf Tryd.f129 1)=Y0.T1:=by kernel_rfl
theorem Y0.bits1:waitsOk Y0.T1.2 Y0.B1=true:=by kernel_rfl
def Y0.T3:Bool × List (List Nat × List Nat):=(true,[([],[]),([],[]),([0,1],[0,1]),([2],[2]),([3],[3]),([3],[3]),([3],[3]),([5,6,3],[3,5,6]),([7,3],[3,7]),([3],[3]),([3],[3]),([9,10,3],[3,9,10]),([11,3],[3,11]),([4,8,12,3,3],[3,4,8,12]),([13,3],[3,13]),([3,14],[3,14])])
def Y0.B3:List Nat:=[0,0,3,7,15,15,15,111,239,15,15,1551,3599,8191,16383,32767]
theorem Y0.tab3:rtab .any (opsOf Tryd.f129 3)=Y0.T3:=by kernel_rfl
theorem Y0.bits3:waitsOk Y0.T3.2 Y0.B3=true:=by kernel_rfl
def Y0.T5:Bool × List (List Nat × List Nat):=(true,[([],[]),([],[]),([0,1],[0,1]),([2],[2]),([3],[3]),([3],[3]),([3],[3]),([5,6,3],[3,5,6]),([7,3],[3,7]),([3],[3]),([3],[3]),([9,10,3],[3,9,10]),([11,3],[3,11]),([4,8,12,3,3],[3,4,8,12]),([13,3],[3,13]),([14,3],[3,14]),([3,15],[3,15])])
def Y0.B5:List Nat:=[0,0,3,7,15,15,15,111,239,15,15,1551,3599,8191,16383,32767,65535]
theorem Y0.tab5:rtab .any (opsOf Tryd.f129 5)=Y0.T5:=by kernel_rfl
theorem Y0.bits5:waitsOk Y0.T5.2 Y0.B5=true:=by kernel_rfl
def Y0.T8:Bool × List (List Nat × List Nat):=(true,[([],[]),([],[]),([],[]),([],[]),([],[]),([],[]),([4,5],[4,5]),([6],[6]),([],[]),([],[]),([8,9],[8,9]),([10],[10]),([0,1,0,1,4,5,6,7,11],[0,1]),([12,7,0,1,4,5,6,7,11],[7,12]),([2,3,0,1,2,3,4,5,6,7,8,9,10,11,12,13],[2,3]),([14,11,13,0,1,2,3,4,5,6,7,8,9,10,11,12,13],[11,14])])
def Y0.B8:List Nat:=[0,0,0,0,0,0,48,112,0,0,768,1792,4083,8179,16383,32767]
theorem Y0.tab8:rtab .any (opsOf Tryd.f129 8)=Y0.T8:=by kernel_rfl
theorem Y0.bits8:waitsOk Y0.T8.2 Y0.B8=true:=by kernel_rfl
def Y0.T10:Bool × List (List Nat × List Nat):=(true,[([],[]),([],[]),([],[]),([],[]),([],[]),([],[]),([4,5],[4,5]),([6],[6]),([],[]),([],[]),([8,9],[8,9]),([10],[10]),([0,1,0,1,4,5,6,7,11],[0,1]),([12,7,0,1,4,5,6,7,11],[7,12]),([2,3,0,1,2,3,4,5,6,7,8,9,10,11,12,13],[2,3]),([14,11,13,0,1,2,3,4,5,6,7,8,9,10,11,12,13],[11,14])])
def Y0.B10:List Nat:=[0,0,0,0,0,0,48,112,0,0,768,1792,4083,8179,16383,32767]
theorem Y0.tab10:rtab .any (opsOf Tryd.f129 10)=Y0.T10:=by kernel_rfl
theorem Y0.bits10:waitsOk Y0.T10.2 Y0.B10=true:=by kernel_rfl
def Y0.T13:Bool × List (List Nat × List Nat):=(true,[([],[]),([],[]),([0,1],[0,1]),([2],[2]),([3],[3]),([3],[3]),([3],[3]),([5,6,3],[3,5,6]),([7,3],[3,7]),([3],[3]),([3],[3]),([9,10,3],[3,9,10]),([11,3],[3,11]),([4,8,12,3,3],[3,4,8,12]),([13,3],[3,13]),([3,14],[3,14])])
def Y0.B13:List Nat:=[0,0,3,7,15,15,15,111,239,15,15,1551,3599,8191,16383,32767]
theorem Y0.tab13:rtab .any (opsOf Tryd.f129 13)=Y0.T13:=by kernel_rfl
theorem Y0.bits13:waitsOk Y0.T13.2 Y0.B13=true:=by kernel_rfl
def Y0.T15:Bool × List (List Nat × List Nat):=(true,[([],[]),([],[]),([0,1],[0,1]),([2],[2]),([3],[3]),([3],[3]),([3],[3]),([5,6,3],[3,5,6]),([7,3],[3,7]),([3],[3]),([3],[3]),([9,10,3],[3,9,10]),([11,3],[3,11]),([4,8,12,3,3],[3,4,8,12]),([13,3],[3,13]),([14,3],[3,14]),([3,15],[3,15])])
def Y0.B15:List Nat:=[0,0,3,7,15,15,15,111,239,15,15,1551,3599,8191,16383,32767,65535]
theorem Y0.tab15:rtab .any (opsOf Tryd.f129 15)=Y0.T15:=by kernel_rfl
theorem Y0.bits15:waitsOk Y0.T15.2 Y0.B15=true:=by kernel_rfl
def Y0.T18:Bool × List (List Nat × List Nat):=(true,[([],[]),([],[]),([],[]),([],[]),([],[]),([],[]),([4,5],[4,5]),([6],[6]),([],[]),([],[]),([8,9],[8,9]),([10],[10]),([0,1,0,1,4,5,6,7,11],[0,1]),([12,7,0,1,4,5,6,7,11],[7,12]),([2,3,0,1,2,3,4,5,6,7,8,9,10,11,12,13],[2,3]),([14,11,13,0,1,2,3,4,5,6,7,8,9,10,11,12,13],[11,14])])
def Y0.B18:List Nat:=[0,0,0,0,0,0,48,112,0,0,768,1792,4083,8179,16383,32767]
theorem Y0.tab18:rtab .any (opsOf Tryd.f129 18)=Y0.T18:=by kernel_rfl
theorem Y0.bits18:waitsOk Y0.T18.2 Y0.B18=true:=by kernel_rfl
def Y0.T21:Bool × List (List Nat × List Nat):=(true,[([],[]),([],[]),([],[]),([],[]),([],[]),([],[]),([4,5],[4,5]),([6],[6]),([],[]),([],[]),([8,9],[8,9]),([10],[10]),([0,1,0,1,4,5,6,7,11],[0,1]),([12,7,0,1,4,5,6,7,11],[7,12]),([2,3,0,1,2,3,4,5,6,7,8,9,10,11,12,13],[2,3]),([14,11,13,0,1,2,3,4,5,6,7,8,9,10,11,12,13],[11,14])])
def Y0.B21:List Nat:=[0,0,0,0,0,0,48,112,0,0,768,1792,4083,8179,16383,32767]
theorem Y0.tab21:rtab .any (opsOf Tryd.f129 21)=Y0.T21:=by kernel_rfl
theorem Y0.bits21:waitsOk Y0.T21.2 Y0.B21=true:=by kernel_rfl
abbrev Y0.q0:Array Bool:=#[O,O,O,O,O,O,O,O,O,O,O,O,O,O,O,O]
abbrev Y0.q1:Array Bool:=#[I,O,O,O,O,O,O,O,O,O,O,O,O,O,O,O]
abbrev Y0.q2:Array Bool:=#[I,I,O,O,O,O,O,O,O,O,O,O,O,O,O,O]
abbrev Y0.q3:Array Bool:=#[I,I,I,O,O,O,O,O,O,O,O,O,O,O,O,O]
abbrev Y0.q4:Array Bool:=#[I,I,I,I,O,O,O,O,O,O,O,O,O,O,O,O]
abbrev Y0.q5:Array Bool:=#[I,I,I,I,I,O,O,O,O,O,O,O,O,O,O,O]
abbrev Y0.q6:Array Bool:=#[I,I,I,I,I,I,O,O,O,O,O,O,O,O,O,O]
abbrev Y0.q7:Array Bool:=#[I,I,I,I,I,I,I,O,O,O,O,O,O,O,O,O]
abbrev Y0.q8:Array Bool:=#[I,I,I,I,I,I,I,O,I,O,O,O,O,O,O,O]
abbrev Y0.q9:Array Bool:=#[I,I,I,I,I,I,I,O,I,I,O,O,O,O,O,O]
abbrev Y0.q10:Array Bool:=#[I,I,I,I,I,I,I,O,I,I,I,O,O,O,O,O]
abbrev Y0.q11:Array Bool:=#[I,I,I,I,I,I,I,I,I,I,I,O,O,O,O,O]
abbrev Y0.q12:Array Bool:=#[I,I,I,I,I,I,I,I,I,I,I,I,O,O,O,O]
abbrev Y0.q13:Array Bool:=#[I,I,I,I,I,I,I,I,I,I,I,I,I,O,O,O]
abbrev Y0.q14:Array Bool:=#[I,I,I,I,I,I,I,I,I,I,I,I,I,I,O,O]
abbrev Y0.q15:Array Bool:=#[I,I,I,I,I,I,I,I,I,I,I,I,I,I,I,O]
abbrev Y0.q16:Array Bool:=#[I,I,I,I,I,I,I,I,I,I,I,I,I,I,I,I]
abbrev Y0.q17:Array Bool:=#[I,I,I,I,I,I,I,I,O,O,O,O,O,O,O,O]
abbrev Y0.q18:Array Bool:=#[I,I,I,I,I,I,I,I,O,I,O,O,O,O,O,O]
abbrev Y0.q19:Array Bool:=#[I,I,I,I,I,I,I,I,O,I,I,O,O,O,O,O]
abbrev Y0.q20:Array Bool:=#[I,I,I,I,I,I,I,I,O,I,I,I,O,O,O,O]
abbrev Y0.q21:Array Bool:=#[I,I,I,I,I,I,I,I,I,O,O,O,O,O,O,O]
abbrev Y0.q22:Array Bool:=#[I,I,I,I,I,I,I,I,I,I,O,O,O,O,O,O]
abbrev Y0.q23:Array Bool:=#[O,O,O,O,O,O,O,O,O,O,O,O,O,O,O,O,O]
abbrev Y0.q24:Array Bool:=#[I,O,O,O,O,O,O,O,O,O,O,O,O,O,O,O,O]
abbrev Y0.q25:Array Bool:=#[I,I,O,O,O,O,O,O,O,O,O,O,O,O,O,O,O]
abbrev Y0.q26:Array Bool:=#[I,I,I,O,O,O,O,O,O,O,O,O,O,O,O,O,O]
abbrev Y0.q27:Array Bool:=#[I,I,I,I,O,O,O,O,O,O,O,O,O,O,O,O,O]
abbrev Y0.q28:Array Bool:=#[I,I,I,I,I,O,O,O,O,O,O,O,O,O,O,O,O]
abbrev Y0.q29:Array Bool:=#[I,I,I,I,I,I,O,O,O,O,O,O,O,O,O,O,O]
abbrev Y0.q30:Array Bool:=#[I,I,I,I,I,I,I,O,O,O,O,O,O,O,O,O,O]
abbrev Y0.q31:Array Bool:=#[I,I,I,I,I,I,I,I,O,O,O,O,O,O,O,O,O]
abbrev Y0.q32:Array Bool:=#[I,I,I,I,I,I,I,I,O,I,O,O,O,O,O,O,O]
abbrev Y0.q33:Array Bool:=#[I,I,I,I,I,I,I,I,O,I,I,O,O,O,O,O,O]
abbrev Y0.q34:Array Bool:=#[I,I,I,I,I,I,I,I,O,I,I,I,O,O,O,O,O]
abbrev Y0.q35:Array Bool:=#[I,I,I,I,I,I,I,I,I,I,I,I,O,O,O,O,O]
abbrev Y0.q36:Array Bool:=#[I,I,I,I,I,I,I,I,I,I,I,I,I,O,O,O,O]
abbrev Y0.q37:Array Bool:=#[I,I,I,I,I,I,I,I,I,I,I,I,I,I,O,O,O]
abbrev Y0.q38:Array Bool:=#[I,I,I,I,I,I,I,I,I,I,I,I,I,I,I,O,O]
abbrev Y0.q39:Array Bool:=#[I,I,I,I,I,I,I,I,I,I,I,I,I,I,I,I,O]
abbrev Y0.q40:Array Bool:=#[I,I,I,I,I,I,I,I,I,I,I,I,I,I,I,I,I]
abbrev Y0.q41:Array Bool:=#[I,I,I,I,I,I,I,I,I,O,O,O,O,O,O,O,O]
abbrev Y0.q42:Array Bool:=#[I,I,I,I,I,I,I,I,I,I,O,O,O,O,O,O,O]
abbrev Y0.q43:Array Bool:=#[I,I,I,I,I,I,I,I,I,I,I,O,O,O,O,O,O]
theorem Y0.calls (k:Nat) (P0_:Nat→Prop) (u9000_:Value) (l0:List (S77)) (a1:Int) (a2:Int) (a3:Int)  (r1:Int) (r2:Bool) (r3:List (S77)) (w0 w:World) (hB:Below w0.heap.size w0 w) (ho0:Kd.R k77 77 w w0.heap.size P0_ u9000_ l0) (h:Y0.f k l0 a1 a2 a3=some (r1,r2,r3)) :
  Calls Tryd.prog 129 #[u9000_,.int .i64 a1,.int .i64 a2,.int .i64 a3,.func (.func 78) #[] #[]] w fun e w'=>e = .returned (.tuple #[.int .i64 r1,.bool r2])∧Kd.R k77 77 w' w0.heap.size (fun k_=>(P0_ k_∨w.heap.size≤k_)) u9000_ r3∧Below w0.heap.size w0 w'∧Kept w w' (fun k_=>P0_ k_):=by
 have hu77:=Tryd.underlying77
 have HO0:=aM (show Kd.R k77 77 w w0.heap.size (fun k_=>(P0_ k_∨w.heap.size≤k_)) u9000_ l0 from Kd.R_mono ho0 (fun k_ hk=>(.inl hk)))
 have HK:=aM (Kept.refl w (fun k_=>P0_ k_))
 have HW0:=aM hB.size
 have HB:=aM hB
 clear hB
 have H:(if 0≤a3 then (if a3<(l0.length:Int) then (if 0≤a1 then (if a1<(l0.length:Int) then (Y0.l0 k ((l0.set (a1:Int).toNat (⟨(rd_T77 l0 a3).f0,(rd_T77 l0 a3).f1⟩:S77)).set (a3:Int).toNat (⟨(rd_T77 l0 a1).f0,(rd_T77 l0 a1).f1⟩:S77)) a1 (wrap64 (a1+1)) (wrap64 (a2-1))) else (none)) else (none)) else (none)) else (none))=some (r1,r2,r3):=h
 clear h
 by_cases c6:0≤a3
 ·rw [if_pos c6] at H
  have c6b0:decide (0≤a3)=true:=dE c6
  clear c6
  by_cases c7:a3<(l0.length:Int)
  ·rw [if_pos c7] at H
   have c7b0:decide (a3<(l0.length:Int))=true:=dE c7
   clear c7
   by_cases c8:0≤a1
   ·rw [if_pos c8] at H
    have c8b0:decide (0≤a1)=true:=dE c8
    clear c8
    by_cases c9:a1<(l0.length:Int)
    ·rw [if_pos c9] at H
     have c9b0:decide (a1<(l0.length:Int))=true:=dE c9
     clear c9
     obtain ⟨y194,hy194⟩:∃ y_:List (S77),y_=(l0.set (a1:Int).toNat (⟨(rd_T77 l0 a3).f0,(rd_T77 l0 a3).f1⟩:S77)):=⟨_,rfl⟩
     replace H:(Y0.l0 k (y194.set (a3:Int).toNat (⟨(rd_T77 l0 a1).f0,(rd_T77 l0 a1).f1⟩:S77)) a1 (wrap64 (a1+1)) (wrap64 (a2-1)))=some (r1,r2,r3):=by first | (rw [hy194];with_reducible exact H) | (have H2_:=(Option.bind_some _ _).symm.trans H;rw [hy194];with_reducible exact H2_) | (have H2_:=(Option.bind_some _ _).symm.trans H;with_reducible exact H2_) | with_reducible exact H | (rw [hy194];exact H) | exact H
     have Ny194:=aM hy194
     clear hy194
     obtain ⟨y195,hy195⟩:∃ y_:List (S77),y_=(y194.set (a3:Int).toNat (⟨(rd_T77 l0 a1).f0,(rd_T77 l0 a1).f1⟩:S77)):=⟨_,rfl⟩
     replace H:(Y0.l0 k y195 a1 (wrap64 (a1+1)) (wrap64 (a2-1)))=some (r1,r2,r3):=by first | (rw [hy195];with_reducible exact H) | (have H2_:=(Option.bind_some _ _).symm.trans H;rw [hy195];with_reducible exact H2_) | (have H2_:=(Option.bind_some _ _).symm.trans H;with_reducible exact H2_) | with_reducible exact H | (rw [hy195];exact H) | exact H
     have Ny195:=aM hy195
     clear hy195
     have H':=aM H
     clear H
     go_enter Tryd.func129,Tryd.ntmps129
     try go_wp2
     have n0_:=aM (Kd.R_drew HO0.out)
     have n1_:=aM (Kept.drew HK.out)
     have n2_:=aM (below_drew1 HB.out)
     clear HO0
     clear HK
     clear HB
     have HO0:=n0_
     have HK:=n1_
     have HB:=n2_
     clear n0_ n1_ n2_
     obtain ⟨Ao13,co13,eo13⟩:=Kd.R_slice HO0.out
     (first | subst eo13 | (injection eo13 with f1_ f2_ f3_;have f4_:=f1_.symm;have f5_:=f3_.symm;clear f1_ f2_ f3_;subst f4_;subst f5_))
     have p192:0≤(a3:Int):=dT (z0_)
     have q192:a3<(l0.length:Int):=dT (z0_)
     obtain ⟨ad192,e192,hx192_0,hx192_1⟩:=at_T77 (Kd.R_reads' HO0.out).2.2 a3 p192 q192
     cases e192
     replace p192:=eq_true p192
     replace q192:=eq_true q192
     have p193:0≤(a1:Int):=dT (z0_)
     have q193:a1<(l0.length:Int):=dT (z0_)
     obtain ⟨ad193,e193,hx193_0,hx193_1⟩:=at_T77 (Kd.R_reads' HO0.out).2.2 a1 p193 q193
     obtain rfl:ad192=ad193:=(by injection e193)
     replace p193:=eq_true p193
     replace q193:=eq_true q193
     have p10:0≤(a1:Int):=dT (z0_)
     have q10:(a1:Int)<((l0.length:Int):Int):=dT (z0_)
     obtain ⟨go10,co10,eo10,gb10,gl10,cl10,HG10⟩:=Kd.R_form HO0.out (by omega)
     (first | cases eo10 | (injection eo10 with ea_ en_ ec_;(first | subst ea_ | (injection ea_ with ea_;subst ea_));subst ec_;clear en_))
     have GB10:=aM gb10
     have GG10:=aM HG10
     clear gb10 gl10 HG10
     have HMgo10:=aM (show (P0_ go10∨w.heap.size≤go10) from (HO0.out.1 _ rfl))
     (first | simp only [add_plain] at hx192_0 | skip)
     (first | simp only [add_plain] at hx192_1 | skip)
     (first | simp only [add_plain] at hx193_0 | skip)
     (first | simp only [add_plain] at hx193_1 | skip)
     obtain ⟨ce10,hcl10,hM10,hcc10,hfr10⟩:=Kd.R_elem HO0.out z77 (a1:Int) p10 q10
     obtain rfl:=k77_openM hM10
     have hx10_0:World.cell? _ ⟨go10,(a1:Int).toNat*2,none⟩=some (.int .i64 ((rd_T77 l0 a1).f0)):=hcc10 0 _ rfl
     have hx10_1:World.cell? _ ⟨go10,(a1:Int).toNat*2+1,none⟩=some (.int .i64 ((rd_T77 l0 a1).f1)):=hcc10 1 _ rfl
     have hf10_0:World.frozen? _ ⟨go10,(a1:Int).toNat*2,none⟩=false:=hfr10 0
     have hf10_1:World.frozen? _ ⟨go10,(a1:Int).toNat*2+1,none⟩=false:=hfr10 1
     clear hcl10 hcc10 hfr10 hM10
     replace p10:=eq_true p10
     replace q10:=eq_true q10
     obtain ⟨ce14,hcl14,hM14,hcc14,hfr14⟩:=Kd.R_elem HO0.out z77 (a1:Int) (dT (z0_)) (by have h_:(a1:Int)<((l0.length:Int):Int):=dT (by first | (with_reducible assumption) | assumption);first | exact h_ | (have e_:=(Kd.R_reads' HO0.out).1;omega) | simpa using h_)
     obtain rfl:=k77_openM hM14
     have HP14:=(Kd.R_seg HO0.out (a1:Int) (dT (z0_)) (by have h_:(a1:Int)<((l0.length:Int):Int):=dT (by first | (with_reducible assumption) | assumption);first | exact h_ | (have e_:=(Kd.R_reads' HO0.out).1;omega) | simpa using h_) (seg:=[.int .i64 ((rd_T77 l0 a3).f0),.int .i64 ((rd_T77 l0 a3).f1)]) (j:=0) hcl14 hcc14 (show 2≤2 from by decide) (x':=(⟨(rd_T77 l0 a3).f0,(rd_T77 l0 a3).f1⟩:S77)) (k77_mkM _ _ _ (⟨(rd_T77 l0 a3).f0,(rd_T77 l0 a3).f1⟩:S77) ) (fun _ hk=>hk)).1
     rw [← Ny194.out] at HP14
     have HQ14:=aM HP14
     clear hcl14 hcc14 hfr14 hM14 HP14
     have p11:0≤(a3:Int):=dT (z0_)
     have q11:(a3:Int)<((l0.length:Int):Int):=dT (z0_)
     obtain ⟨ce11,hcl11,hM11,hcc11,hfr11⟩:=Kd.R_elem HQ14.out z77 (a3:Int) p11 q11
     obtain rfl:=k77_openM hM11
     have hx11_0:World.cell? _ ⟨go10,(a3:Int).toNat*2,none⟩=some (.int .i64 ((rd_T77 y194 a3).f0)):=hcc11 0 _ rfl
     have hx11_1:World.cell? _ ⟨go10,(a3:Int).toNat*2+1,none⟩=some (.int .i64 ((rd_T77 y194 a3).f1)):=hcc11 1 _ rfl
     have hf11_0:World.frozen? _ ⟨go10,(a3:Int).toNat*2,none⟩=false:=hfr11 0
     have hf11_1:World.frozen? _ ⟨go10,(a3:Int).toNat*2+1,none⟩=false:=hfr11 1
     clear hcl11 hcc11 hfr11 hM11
     replace p11:=eq_true p11
     replace q11:=eq_true q11
     obtain ⟨ce15,hcl15,hM15,hcc15,hfr15⟩:=Kd.R_elem HQ14.out z77 (a3:Int) (dT (z0_)) (by have h_:(a3:Int)<((l0.length:Int):Int):=dT (by first | (with_reducible assumption) | assumption);first | exact h_ | (have e_:=(Kd.R_reads' HO0.out).1;omega) | simpa using h_)
     obtain rfl:=k77_openM hM15
     have HP15:=(Kd.R_seg HQ14.out (a3:Int) (dT (z0_)) (by have h_:(a3:Int)<((l0.length:Int):Int):=dT (by first | (with_reducible assumption) | assumption);first | exact h_ | (have e_:=(Kd.R_reads' HO0.out).1;omega) | simpa using h_) (seg:=[.int .i64 ((rd_T77 l0 a1).f0),.int .i64 ((rd_T77 l0 a1).f1)]) (j:=0) hcl15 hcc15 (show 2≤2 from by decide) (x':=(⟨(rd_T77 l0 a1).f0,(rd_T77 l0 a1).f1⟩:S77)) (k77_mkM _ _ _ (⟨(rd_T77 l0 a1).f0,(rd_T77 l0 a1).f1⟩:S77) ) (fun _ hk=>hk)).1
     rw [← Ny195.out] at HP15
     have HQ15:=aM HP15
     clear hcl15 hcc15 hfr15 hM15 HP15
     refine start_ (n:=16) (S:=fun w'=>w'.cell? ⟨go10,((a3).toNat*2),none⟩=some (.int .i64 ((rd_T77 l0 a3).f0))∧w'.cell? ⟨go10,((a3).toNat*2)+1,none⟩=some (.int .i64 ((rd_T77 l0 a3).f1))∧w'.cell? ⟨go10,((a1).toNat*2),none⟩=some (.int .i64 ((rd_T77 l0 a1).f0))∧w'.cell? ⟨go10,((a1).toNat*2)+1,none⟩=some (.int .i64 ((rd_T77 l0 a1).f1))) (ds:=[13,15]) Y0.q0 (by kernel_rfl) rfl rfl ⟨hx192_0,hx192_1,hx193_0,hx193_1⟩ (fun hHeld=>?_);refine with_tabW Y0.tab1 Y0.bits1 (fun HT_ HW_=>?_)
     generalize w.drew=w12 at HO0 HK HB GG10 HQ14 HQ15 hf10_0 hf10_1 hf11_0 hf11_1 hx10_0 hx10_1 hx11_0 hx11_1 hx192_0 hx192_1 hx193_0 hx193_1 hHeld ⊢
     have hz11_0:(w12.setCell ⟨go10,(a1:Int).toNat*2,none⟩ (.int .i64 ((rd_T77 l0 a3).f0))).cell? ⟨go10,(a3:Int).toNat*2,none⟩=some (.int .i64 ((rd_T77 y194 a3).f0)):=by have h_:=hx11_0;exact ((show ((w12.setCell ⟨go10,(a1:Int).toNat*2,none⟩ (.int .i64 ((rd_T77 l0 a3).f0))).setCell ⟨go10,(a1:Int).toNat*2+1,none⟩ (.int .i64 ((rd_T77 l0 a3).f1))).cell? ⟨go10,(a3:Int).toNat*2,none⟩=(w12.setCell ⟨go10,(a1:Int).toNat*2,none⟩ (.int .i64 ((rd_T77 l0 a3).f0))).cell? ⟨go10,(a3:Int).toNat*2,none⟩ from World.cell?_setCell_other _ _ _ _ (by intro e_;injection e_ with e1_ e2_;omega)).symm.trans h_)
     have hy11_0:w12.frozen? ⟨go10,(a3:Int).toNat*2,none⟩=false:=by have h_:=hf11_0;first | exact h_ | simpa only [World.frozen?_setCell] using h_ | simpa [World.setCells] using h_
     have hz11_1:((w12.setCell ⟨go10,(a1:Int).toNat*2,none⟩ (.int .i64 ((rd_T77 l0 a3).f0))).setCell ⟨go10,(a1:Int).toNat*2+1,none⟩ (.int .i64 ((rd_T77 l0 a3).f1))).cell? ⟨go10,(a3:Int).toNat*2+1,none⟩=some (.int .i64 ((rd_T77 y194 a3).f1)):=by have h_:=hx11_1;exact h_
     have hy11_1:w12.frozen? ⟨go10,(a3:Int).toNat*2+1,none⟩=false:=by have h_:=hf11_1;first | exact h_ | simpa only [World.frozen?_setCell] using h_ | simpa [World.setCells] using h_
     refine pu_ 0 14 Y0.q1 HT_.out ?_
     refine pu_ 1 15 Y0.q2 HT_.out ?_
     refine pu_ 2 16 Y0.q3 HT_.out ?_
     refine pu_ 3 17 Y0.q4 HT_.out ?_
     refine pu_ 4 18 Y0.q5 HT_.out ?_
     refine pu_ 5 19 Y0.q6 HT_.out ?_
     refine pu_ 6 20 Y0.q7 HT_.out ?_
     refine pu_ 8 22 Y0.q8 HT_.out ?_
     refine pu_ 9 23 Y0.q9 HT_.out ?_
     refine pu_ 10 24 Y0.q10 HT_.out ?_
     refine tk4_ 7 21 Y0.q11 HT_.out HW_.out hHeld ?_
     refine tk4_ 11 25 Y0.q12 HT_.out HW_.out hHeld ?_
     refine pu_ 12 26 Y0.q13 HT_.out ?_
     refine last_ (i:=13) (N:=none) Y0.q14 rfl rfl (one_of HT_.out (by kernel_rfl)) (by decide) (fun K hK=>?_)
     refine skip_ (w1:=?_) (by rfl) rfl ?_ ?_
     rotate_left
     ·go_simp
      rfl
     refine hK.out _ _ ?_
     clear hK K
     refine pu_ 14 27 Y0.q15 HT_.out ?_
     refine last_ (i:=15) (N:=none) Y0.q16 rfl rfl (one_of HT_.out (by kernel_rfl)) (by decide) (fun K hK=>?_)
     refine skip_ (w1:=?_) (by rfl) rfl ?_ ?_
     rotate_left
     ·go_simp
      rfl
     refine hK.out _ _ ?_
     clear hK K
     refine done_ (done_of HT_.out (by kernel_rfl)) ?_
     try go_wp2
     go_loopg [12] k (fun kq v12 w'=>∃ (x12_1:Int),v12 = .int .i64 x12_1∧Aside0 (Y0.l0 kq y195 a1 x12_1 (wrap64 (a2-1))=some (r1,r2,r3))∧Aside0 (kq≤k)∧Aside0 (Kd.R k77 77 w' w0.heap.size (fun k_=>(P0_ k_∨w.heap.size≤k_)) (.slice (some ⟨go10,0,none⟩) l0.length co13) y195)∧Aside0 (Kept w w' (fun k_=>P0_ k_))∧Aside0 (Below w0.heap.size w0 w'))
     case atStart=>exact ⟨(wrap64 (a1+1)),(z2_),H',⟨Nat.le_refl _⟩,⟨z1_ HQ15.out⟩,⟨z40_ HK.out HMgo10.out⟩,⟨z41_ HB.out GB10.out⟩⟩
     case round=>as_aux_lemma =>
      clear H'
      try clear c1
      try clear p1
      try clear q1
      try clear hx1
      try clear p2
      try clear c6
      try clear c6b0
      try clear p6
      try clear c7
      try clear c7b0
      try clear c8
      try clear c8b0
      try clear c9
      try clear c9b0
      try clear c10
      try clear p10
      try clear q10
      try clear hx10
      try clear hf10
      try clear c11
      try clear p11
      try clear q11
      try clear hx11
      try clear hf11
      try clear c14
      try clear c15
      try clear hx10_0
      try clear hx10_1
      try clear hx11_0
      try clear hx11_1
      try clear hx192_0
      try clear hx192_1
      try clear hx193_0
      try clear hx193_1
      try clear p10
      try clear p11
      try clear p192
      try clear p193
      try clear q10
      try clear q11
      try clear q192
      try clear q193
      obtain ⟨x12_1,rfl,HA,HK1,HO_0,HK,HB⟩:=hrel
      have hl0_1:=(Kd.R_reads' HO_0.out).1
      rw [hl0_1] at HO_0
      (try simp only [hl0_1])
      cases gk with
      | zero=>exact absurd HA.out (by simp [Y0.l0])
      | succ k1 =>
       have H:=HA.out
       clear HA
       simp only [Y0.l0] at H
       have HC16:=aM H
       clear H
       go_upto_region 3 with (fail)
       go_cut [47] (fun v47 wc=>∃ (kq:Nat) (x47_15:Bool),v47 = .bool x47_15∧Aside0 (Y0.j1 kq y195 a1 x12_1 (wrap64 (a2-1)) x47_15=some (r1,r2,r3))∧Aside0 (kq≤k1)∧Aside0 (Kd.R k77 77 wc w0.heap.size (fun k_=>(P0_ k_∨w.heap.size≤k_)) (.slice (some ⟨go10,0,none⟩) y195.length co13) y195)∧Aside0 (Kept w wc (fun k_=>P0_ k_))∧Aside0 (Below w0.heap.size w0 wc))
       case first=>as_aux_lemma =>
        have H:=HC16.out
        clear HC16
        by_cases c17:x12_1≤(wrap64 (a2-1))
        ·rw [if_pos c17] at H
         have c17b0:decide (x12_1≤(wrap64 (a2-1)))=true:=dE c17
         clear c17
         (first | rw [c17b0] | (simp only [i64_w,i32_w];rw [c17b0]) | skip)
         by_cases c18:0≤x12_1
         ·rw [if_pos c18] at H
          have c18b0:decide (0≤x12_1)=true:=dE c18
          clear c18
          by_cases c19:x12_1<(y195.length:Int)
          ·rw [if_pos c19] at H
           have c19b0:decide (x12_1<(y195.length:Int))=true:=dE c19
           clear c19
           by_cases c20:0≤a1
           ·rw [if_pos c20] at H
            have c20b0:decide (0≤a1)=true:=dE c20
            clear c20
            by_cases c21:a1<(y195.length:Int)
            ·rw [if_pos c21] at H
             have c21b0:decide (a1<(y195.length:Int))=true:=dE c21
             clear c21
             replace H:=bS H
             obtain ⟨t198,A220,H⟩:=H
             replace H:(Y0.j1 k1 y195 a1 x12_1 (wrap64 (a2-1)) (decide (t198<0)))=some (r1,r2,r3):=H
             have A22:=aM A220
             clear A220
             have H':=aM H
             clear H
             try go_wp2
             have n0_:=aM (Kd.R_drew HO_0.out)
             have n1_:=aM (Kept.drew HK.out)
             have n2_:=aM (below_drew1 HB.out)
             clear HO_0
             clear HK
             clear HB
             have HO_0:=n0_
             have HK:=n1_
             have HB:=n2_
             clear n0_ n1_ n2_
             have p196:0≤(x12_1:Int):=dT (z0_)
             have q196:x12_1<(y195.length:Int):=dT (z0_)
             obtain ⟨ad196,e196,hx196_0,hx196_1⟩:=at_T77 (Kd.R_reads' HO_0.out).2.2 x12_1 p196 q196
             obtain rfl:(⟨go10,0,none⟩:Addr)=ad196:=(by injection e196)
             (first | simp only [add_plain] at hx196_0 | simp only [add_at] at hx196_0 | simp only [Addr.add,Nat.zero_add] at hx196_0 | skip)
             (first | simp only [add_plain] at hx196_1 | simp only [add_at] at hx196_1 | simp only [Addr.add,Nat.zero_add] at hx196_1 | skip)
             replace p196:=eq_true p196
             replace q196:=eq_true q196
             have p197:0≤(a1:Int):=dT (z0_)
             have q197:a1<(y195.length:Int):=dT (z0_)
             obtain ⟨ad197,e197,hx197_0,hx197_1⟩:=at_T77 (Kd.R_reads' HO_0.out).2.2 a1 p197 q197
             obtain rfl:(⟨go10,0,none⟩:Addr)=ad197:=(by injection e197)
             (first | simp only [add_plain] at hx197_0 | simp only [add_at] at hx197_0 | simp only [Addr.add,Nat.zero_add] at hx197_0 | skip)
             (first | simp only [add_plain] at hx197_1 | simp only [add_at] at hx197_1 | simp only [Addr.add,Nat.zero_add] at hx197_1 | skip)
             replace p197:=eq_true p197
             replace q197:=eq_true q197
             refine start_ (n:=16) (S:=fun w'=>w'.cell? ⟨go10,(x12_1).toNat*2,none⟩=some (.int .i64 ((rd_T77 y195 x12_1).f0))∧w'.cell? ⟨go10,(x12_1).toNat*2+1,none⟩=some (.int .i64 ((rd_T77 y195 x12_1).f1))∧w'.cell? ⟨go10,(a1).toNat*2,none⟩=some (.int .i64 ((rd_T77 y195 a1).f0))∧w'.cell? ⟨go10,(a1).toNat*2+1,none⟩=some (.int .i64 ((rd_T77 y195 a1).f1))) (ds:=[]) Y0.q0 (by kernel_rfl) rfl rfl ⟨hx196_0,hx196_1,hx197_0,hx197_1⟩ (fun hHeld=>?_);refine with_tabW Y0.tab3 Y0.bits3 (fun HT_ HW_=>?_)
             generalize wr.drew=w23 at HO_0 HK HB hx196_0 hx196_1 hx197_0 hx197_1 hHeld ⊢
             refine pu_ 0 32 Y0.q1 HT_.out ?_
             refine pu_ 1 33 Y0.q2 HT_.out ?_
             refine pu_ 2 34 Y0.q3 HT_.out ?_
             refine pu_ 3 35 Y0.q4 HT_.out ?_
             refine pu_ 4 36 Y0.q5 HT_.out ?_
             refine pu_ 5 37 Y0.q6 HT_.out ?_
             refine pu_ 6 38 Y0.q7 HT_.out ?_
             refine pu_ 7 39 Y0.q17 HT_.out ?_
             refine pu_ 9 41 Y0.q18 HT_.out ?_
             refine pu_ 10 42 Y0.q19 HT_.out ?_
             refine pu_ 11 43 Y0.q20 HT_.out ?_
             refine tk4_ 8 40 Y0.q12 HT_.out HW_.out hHeld ?_
             refine tk4_ 12 44 Y0.q13 HT_.out HW_.out hHeld ?_
             refine o1_ 13 45 Y0.q14 HT_.out (fun K hK=>?_)
             refine goesD_ Tryd.func78 (by kernel_rfl) rfl #[.agg #[.int .i64 ((rd_T77 y195 x12_1).f0),.int .i64 ((rd_T77 y195 x12_1).f1)],.agg #[.int .i64 ((rd_T77 y195 a1).f0),.int .i64 ((rd_T77 y195 a1).f1)]] (by rfl) rfl rfl (by rfl) (z42_) ?_
             with_reducible refine (Y30.calls k1 ((rd_T77 y195 x12_1).f0) ((rd_T77 y195 x12_1).f1) ((rd_T77 y195 a1).f0) ((rd_T77 y195 a1).f1) t198 _ A22.out).mono ?_
             rintro e w24 ⟨rfl,hb⟩
             have HS0_:=(hb.cell (World.block_lt_of_cell? _ _ (hHeld.1))).trans (hHeld.1)
             have HS1_:=(hb.cell (World.block_lt_of_cell? _ _ (hHeld.2.1))).trans (hHeld.2.1)
             have HS2_:=(hb.cell (World.block_lt_of_cell? _ _ (hHeld.2.2.1))).trans (hHeld.2.2.1)
             have HS3_:=(hb.cell (World.block_lt_of_cell? _ _ (hHeld.2.2.2))).trans (hHeld.2.2.2)
             refine ⟨_,rfl,?_⟩
             have n0_:=aM (Kd.R_below (z1_ HO_0.out) hb)
             have n1_:=aM (Kept.below (S:=(fun k_=>P0_ k_)) (z10_ HK.out) hb)
             have n2_:=aM (below_step (z5_ HB.out) hb)
             clear HO_0
             clear HK
             clear HB
             have HO_0:=n0_
             have HK:=n1_
             have HB:=n2_
             clear n0_ n1_ n2_
             (try clear hb)
             refine hK.out _ _ ⟨HS0_,HS1_,HS2_,HS3_⟩ (fun hHeld=>?_)
             clear hK K
             refine nm_ 45 ?_
             refine pu_ 14 46 Y0.q15 HT_.out ?_
             refine pu_ 15 47 Y0.q16 HT_.out ?_
             refine done_ (done_of HT_.out (by kernel_rfl)) ?_
             try go_wp2
             go_meet
             case rel=>exact ⟨_,(decide (t198<0)),(z2_),H',⟨z22_ HK1.out⟩,⟨z25_ HO_0.out⟩,⟨z10_ HK.out⟩,⟨z5_ HB.out⟩⟩
            ·rw [if_neg c21] at H
             exact nO H
           ·rw [if_neg c20] at H
            exact nO H
          ·rw [if_neg c19] at H
           exact nO H
         ·rw [if_neg c18] at H
          exact nO H
        ·rw [if_neg c17] at H
         have c17b0:decide (x12_1≤(wrap64 (a2-1)))=false:=dF c17
         clear c17
         (first | rw [c17b0] | (simp only [i64_w,i32_w];rw [c17b0]) | skip)
         have H':=aM H
         clear H
         try go_wp2
         have n0_:=aM (Kd.R_drew HO_0.out)
         have n1_:=aM (Kept.drew HK.out)
         have n2_:=aM (below_drew1 HB.out)
         clear HO_0
         clear HK
         clear HB
         have HO_0:=n0_
         have HK:=n1_
         have HB:=n2_
         clear n0_ n1_ n2_
         refine start_ (n:=16) (S:=fun w'=>True) (ds:=[]) Y0.q0 (by kernel_rfl) rfl rfl trivial (fun hHeld=>?_);refine with_tabW Y0.tab3 Y0.bits3 (fun HT_ HW_=>?_)
         generalize wr.drew=w25 at HO_0 HK HB hHeld ⊢
         refine pu_ 0 32 Y0.q1 HT_.out ?_
         refine pu_ 1 33 Y0.q2 HT_.out ?_
         refine pu_ 2 34 Y0.q3 HT_.out ?_
         refine pu_ 3 35 Y0.q4 HT_.out ?_
         refine pn_ 4 36 Y0.q5 HT_.out ?_
         refine pn_ 5 37 Y0.q6 HT_.out ?_
         refine pn_ 6 38 Y0.q7 HT_.out ?_
         refine pn_ 7 39 Y0.q17 HT_.out ?_
         refine pn_ 8 40 Y0.q21 HT_.out ?_
         refine pn_ 9 41 Y0.q22 HT_.out ?_
         refine pn_ 10 42 Y0.q11 HT_.out ?_
         refine pn_ 11 43 Y0.q12 HT_.out ?_
         refine pn_ 12 44 Y0.q13 HT_.out ?_
         refine pn_ 13 45 Y0.q14 HT_.out ?_
         refine pn_ 14 46 Y0.q15 HT_.out ?_
         refine pu_ 15 47 Y0.q16 HT_.out ?_
         refine done_ (done_of HT_.out (by kernel_rfl)) ?_
         try go_wp2
         go_meet
         case rel=>exact ⟨_,(false),(z2_),H',⟨z22_ HK1.out⟩,⟨z25_ HO_0.out⟩,⟨z10_ HK.out⟩,⟨z5_ HB.out⟩⟩
       case rest=>as_aux_lemma =>
        clear HC16
        try clear c1
        try clear p1
        try clear q1
        try clear hx1
        try clear c2
        try clear p2
        try clear c6
        try clear c6b0
        try clear p6
        try clear c7
        try clear c7b0
        try clear c8
        try clear c8b0
        try clear c9
        try clear c9b0
        try clear c10
        try clear p10
        try clear q10
        try clear hx10
        try clear hf10
        try clear c11
        try clear p11
        try clear q11
        try clear hx11
        try clear hf11
        try clear c14
        try clear c15
        try clear c17
        try clear c17b0
        try clear c18
        try clear c18b0
        try clear c19
        try clear c19b0
        try clear p19
        try clear q19
        try clear hx19
        try clear c20
        try clear c20b0
        try clear c21
        try clear c21b0
        try clear hx10_0
        try clear hx10_1
        try clear hx11_0
        try clear hx11_1
        try clear hx192_0
        try clear hx192_1
        try clear hx193_0
        try clear hx193_1
        try clear hx196_0
        try clear hx196_1
        try clear hx197_0
        try clear hx197_1
        try clear p1
        try clear p10
        try clear p11
        try clear p192
        try clear p193
        try clear p196
        try clear p197
        try clear p2
        try clear p6
        try clear q1
        try clear q10
        try clear q11
        try clear q192
        try clear q193
        try clear q196
        try clear q197
        obtain ⟨kq,x47_15,rfl,HA,HJ15,HO_0,HK,HB⟩:=hcut
        cases kq with
        | zero=>exact absurd HA.out (by simp [Y0.j1])
        | succ kj15 =>
         have H:=HA.out
         clear HA
         simp only [Y0.j1] at H
         by_cases c26:x47_15=true
         ·subst c26
          have H1:(Y0.l0 kj15 y195 a1 (wrap64 (x12_1+1)) (wrap64 (a2-1)))=some (r1,r2,r3):=by rw [if_pos rfl] at H;exact H
          clear H
          have H:=H1
          clear H1
          have H':=aM H
          clear H
          go_wp2
          (try simp only [← hl0_1])
          go_roundg kj15
          case measure=>have:=HK1.out;have:=HJ15.out;omega
          case rel=>exact ⟨(wrap64 (x12_1+1)),(z2_),H',⟨z15_ HK1.out HJ15.out⟩,⟨z25_ HO_0.out⟩,⟨z10_ HK.out⟩,⟨z5_ HB.out⟩⟩
         ·replace c26:=Bool.eq_false_iff.mpr c26
          subst c26
          have H1:(Y0.l1 kj15 y195 a1 x12_1 (wrap64 (a2-1)))=some (r1,r2,r3):=by rw [if_neg (show ¬ (false=true) by decide)] at H;exact H
          clear H
          have H:=H1
          clear H1
          have H':=aM H
          clear H
          go_wp2
          go_loopg [13] kj15 (fun kq v13 w'=>∃ (x13_3:Int),v13 = .int .i64 x13_3∧Aside0 (Y0.l1 kq y195 a1 x12_1 x13_3=some (r1,r2,r3))∧Aside0 (kq≤kj15)∧Aside0 (Kd.R k77 77 w' w0.heap.size (fun k_=>(P0_ k_∨w.heap.size≤k_)) (.slice (some ⟨go10,0,none⟩) y195.length co13) y195)∧Aside0 (Kept w w' (fun k_=>P0_ k_))∧Aside0 (Below w0.heap.size w0 w'))
          case atStart=>exact ⟨((wrap64 (a2-1))),(z2_),H',⟨Nat.le_refl _⟩,⟨z25_ HO_0.out⟩,⟨z10_ HK.out⟩,⟨z5_ HB.out⟩⟩
          case round=>as_aux_lemma =>
           clear H'
           try clear c1
           try clear p1
           try clear q1
           try clear hx1
           try clear c2
           try clear p2
           try clear c6
           try clear c6b0
           try clear p6
           try clear c7
           try clear c7b0
           try clear c8
           try clear c8b0
           try clear c9
           try clear c9b0
           try clear c10
           try clear p10
           try clear q10
           try clear hx10
           try clear hf10
           try clear c11
           try clear p11
           try clear q11
           try clear hx11
           try clear hf11
           try clear c14
           try clear c15
           try clear c17
           try clear c17b0
           try clear c18
           try clear c18b0
           try clear c19
           try clear c19b0
           try clear p19
           try clear q19
           try clear hx19
           try clear c20
           try clear c20b0
           try clear c21
           try clear c21b0
           try clear c26
           try clear hx10_0
           try clear hx10_1
           try clear hx11_0
           try clear hx11_1
           try clear hx192_0
           try clear hx192_1
           try clear hx193_0
           try clear hx193_1
           try clear hx196_0
           try clear hx196_1
           try clear hx197_0
           try clear hx197_1
           try clear p1
           try clear p10
           try clear p11
           try clear p19
           try clear p192
           try clear p193
           try clear p196
           try clear p197
           try clear p2
           try clear p6
           try clear q1
           try clear q10
           try clear q11
           try clear q19
           try clear q192
           try clear q193
           try clear q196
           try clear q197
           obtain ⟨x13_3,rfl,HA,HK3,HO_0,HK,HB⟩:=hrel
           cases gk with
           | zero=>exact absurd HA.out (by simp [Y0.l1])
           | succ k3 =>
            have H:=HA.out
            clear HA
            simp only [Y0.l1] at H
            have HC27:=aM H
            clear H
            go_upto_region 5 with (fail)
            go_cut [66] (fun v66 wc=>∃ (kq:Nat) (x66_26:Bool),v66 = .bool x66_26∧Aside0 (Y0.j3 kq y195 a1 x12_1 x13_3 x66_26=some (r1,r2,r3))∧Aside0 (kq≤k3)∧Aside0 (Kd.R k77 77 wc w0.heap.size (fun k_=>(P0_ k_∨w.heap.size≤k_)) (.slice (some ⟨go10,0,none⟩) y195.length co13) y195)∧Aside0 (Kept w wc (fun k_=>P0_ k_))∧Aside0 (Below w0.heap.size w0 wc))
            case first=>as_aux_lemma =>
             have H:=HC27.out
             clear HC27
             by_cases c28:x12_1≤x13_3
             ·rw [if_pos c28] at H
              have c28b0:decide (x12_1≤x13_3)=true:=dE c28
              clear c28
              (first | rw [c28b0] | (simp only [i64_w,i32_w];rw [c28b0]) | skip)
              by_cases c29:0≤x13_3
              ·rw [if_pos c29] at H
               have c29b0:decide (0≤x13_3)=true:=dE c29
               clear c29
               by_cases c30:x13_3<(y195.length:Int)
               ·rw [if_pos c30] at H
                have c30b0:decide (x13_3<(y195.length:Int))=true:=dE c30
                clear c30
                by_cases c31:0≤a1
                ·rw [if_pos c31] at H
                 have c31b0:decide (0≤a1)=true:=dE c31
                 clear c31
                 by_cases c32:a1<(y195.length:Int)
                 ·rw [if_pos c32] at H
                  have c32b0:decide (a1<(y195.length:Int))=true:=dE c32
                  clear c32
                  replace H:=bS H
                  obtain ⟨t201,A330,H⟩:=H
                  replace H:(Y0.j3 k3 y195 a1 x12_1 x13_3 (!(decide (t201<0))))=some (r1,r2,r3):=H
                  have A33:=aM A330
                  clear A330
                  have H':=aM H
                  clear H
                  try go_wp2
                  have n0_:=aM (Kd.R_drew HO_0.out)
                  have n1_:=aM (Kept.drew HK.out)
                  have n2_:=aM (below_drew1 HB.out)
                  clear HO_0
                  clear HK
                  clear HB
                  have HO_0:=n0_
                  have HK:=n1_
                  have HB:=n2_
                  clear n0_ n1_ n2_
                  have p199:0≤(x13_3:Int):=dT (z0_)
                  have q199:x13_3<(y195.length:Int):=dT (z0_)
                  obtain ⟨ad199,e199,hx199_0,hx199_1⟩:=at_T77 (Kd.R_reads' HO_0.out).2.2 x13_3 p199 q199
                  obtain rfl:(⟨go10,0,none⟩:Addr)=ad199:=(by injection e199)
                  (first | simp only [add_plain] at hx199_0 | simp only [add_at] at hx199_0 | simp only [Addr.add,Nat.zero_add] at hx199_0 | skip)
                  (first | simp only [add_plain] at hx199_1 | simp only [add_at] at hx199_1 | simp only [Addr.add,Nat.zero_add] at hx199_1 | skip)
                  replace p199:=eq_true p199
                  replace q199:=eq_true q199
                  have p200:0≤(a1:Int):=dT (z0_)
                  have q200:a1<(y195.length:Int):=dT (z0_)
                  obtain ⟨ad200,e200,hx200_0,hx200_1⟩:=at_T77 (Kd.R_reads' HO_0.out).2.2 a1 p200 q200
                  obtain rfl:(⟨go10,0,none⟩:Addr)=ad200:=(by injection e200)
                  (first | simp only [add_plain] at hx200_0 | simp only [add_at] at hx200_0 | simp only [Addr.add,Nat.zero_add] at hx200_0 | skip)
                  (first | simp only [add_plain] at hx200_1 | simp only [add_at] at hx200_1 | simp only [Addr.add,Nat.zero_add] at hx200_1 | skip)
                  replace p200:=eq_true p200
                  replace q200:=eq_true q200
                  refine start_ (n:=17) (S:=fun w'=>w'.cell? ⟨go10,(x13_3).toNat*2,none⟩=some (.int .i64 ((rd_T77 y195 x13_3).f0))∧w'.cell? ⟨go10,(x13_3).toNat*2+1,none⟩=some (.int .i64 ((rd_T77 y195 x13_3).f1))∧w'.cell? ⟨go10,(a1).toNat*2,none⟩=some (.int .i64 ((rd_T77 y195 a1).f0))∧w'.cell? ⟨go10,(a1).toNat*2+1,none⟩=some (.int .i64 ((rd_T77 y195 a1).f1))) (ds:=[]) Y0.q23 (by kernel_rfl) rfl rfl ⟨hx199_0,hx199_1,hx200_0,hx200_1⟩ (fun hHeld=>?_);refine with_tabW Y0.tab5 Y0.bits5 (fun HT_ HW_=>?_)
                  generalize wr.drew=w34 at HO_0 HK HB hx199_0 hx199_1 hx200_0 hx200_1 hHeld ⊢
                  refine pu_ 0 50 Y0.q24 HT_.out ?_
                  refine pu_ 1 51 Y0.q25 HT_.out ?_
                  refine pu_ 2 52 Y0.q26 HT_.out ?_
                  refine pu_ 3 53 Y0.q27 HT_.out ?_
                  refine pu_ 4 54 Y0.q28 HT_.out ?_
                  refine pu_ 5 55 Y0.q29 HT_.out ?_
                  refine pu_ 6 56 Y0.q30 HT_.out ?_
                  refine pu_ 7 57 Y0.q31 HT_.out ?_
                  refine pu_ 9 59 Y0.q32 HT_.out ?_
                  refine pu_ 10 60 Y0.q33 HT_.out ?_
                  refine pu_ 11 61 Y0.q34 HT_.out ?_
                  refine tk4_ 8 58 Y0.q35 HT_.out HW_.out hHeld ?_
                  refine tk4_ 12 62 Y0.q36 HT_.out HW_.out hHeld ?_
                  refine o1_ 13 63 Y0.q37 HT_.out (fun K hK=>?_)
                  refine goesD_ Tryd.func78 (by kernel_rfl) rfl #[.agg #[.int .i64 ((rd_T77 y195 x13_3).f0),.int .i64 ((rd_T77 y195 x13_3).f1)],.agg #[.int .i64 ((rd_T77 y195 a1).f0),.int .i64 ((rd_T77 y195 a1).f1)]] (by rfl) rfl rfl (by rfl) (z42_) ?_
                  with_reducible refine (Y30.calls k3 ((rd_T77 y195 x13_3).f0) ((rd_T77 y195 x13_3).f1) ((rd_T77 y195 a1).f0) ((rd_T77 y195 a1).f1) t201 _ A33.out).mono ?_
                  rintro e w35 ⟨rfl,hb⟩
                  have HS0_:=(hb.cell (World.block_lt_of_cell? _ _ (hHeld.1))).trans (hHeld.1)
                  have HS1_:=(hb.cell (World.block_lt_of_cell? _ _ (hHeld.2.1))).trans (hHeld.2.1)
                  have HS2_:=(hb.cell (World.block_lt_of_cell? _ _ (hHeld.2.2.1))).trans (hHeld.2.2.1)
                  have HS3_:=(hb.cell (World.block_lt_of_cell? _ _ (hHeld.2.2.2))).trans (hHeld.2.2.2)
                  refine ⟨_,rfl,?_⟩
                  have n0_:=aM (Kd.R_below (z1_ HO_0.out) hb)
                  have n1_:=aM (Kept.below (S:=(fun k_=>P0_ k_)) (z10_ HK.out) hb)
                  have n2_:=aM (below_step (z5_ HB.out) hb)
                  clear HO_0
                  clear HK
                  clear HB
                  have HO_0:=n0_
                  have HK:=n1_
                  have HB:=n2_
                  clear n0_ n1_ n2_
                  (try clear hb)
                  refine hK.out _ _ ⟨HS0_,HS1_,HS2_,HS3_⟩ (fun hHeld=>?_)
                  clear hK K
                  refine nm_ 63 ?_
                  refine pu_ 14 64 Y0.q38 HT_.out ?_
                  refine pu_ 15 65 Y0.q39 HT_.out ?_
                  refine pu_ 16 66 Y0.q40 HT_.out ?_
                  refine done_ (done_of HT_.out (by kernel_rfl)) ?_
                  try go_wp2
                  go_meet
                  case rel=>exact ⟨_,(!(decide (t201<0))),(z2_),H',⟨z27_ HK1.out HJ15.out HK3.out⟩,⟨z25_ HO_0.out⟩,⟨z10_ HK.out⟩,⟨z5_ HB.out⟩⟩
                 ·rw [if_neg c32] at H
                  exact nO H
                ·rw [if_neg c31] at H
                 exact nO H
               ·rw [if_neg c30] at H
                exact nO H
              ·rw [if_neg c29] at H
               exact nO H
             ·rw [if_neg c28] at H
              have c28b0:decide (x12_1≤x13_3)=false:=dF c28
              clear c28
              (first | rw [c28b0] | (simp only [i64_w,i32_w];rw [c28b0]) | skip)
              have H':=aM H
              clear H
              try go_wp2
              have n0_:=aM (Kd.R_drew HO_0.out)
              have n1_:=aM (Kept.drew HK.out)
              have n2_:=aM (below_drew1 HB.out)
              clear HO_0
              clear HK
              clear HB
              have HO_0:=n0_
              have HK:=n1_
              have HB:=n2_
              clear n0_ n1_ n2_
              refine start_ (n:=17) (S:=fun w'=>True) (ds:=[]) Y0.q23 (by kernel_rfl) rfl rfl trivial (fun hHeld=>?_);refine with_tabW Y0.tab5 Y0.bits5 (fun HT_ HW_=>?_)
              generalize wr.drew=w36 at HO_0 HK HB hHeld ⊢
              refine pu_ 0 50 Y0.q24 HT_.out ?_
              refine pu_ 1 51 Y0.q25 HT_.out ?_
              refine pu_ 2 52 Y0.q26 HT_.out ?_
              refine pu_ 3 53 Y0.q27 HT_.out ?_
              refine pn_ 4 54 Y0.q28 HT_.out ?_
              refine pn_ 5 55 Y0.q29 HT_.out ?_
              refine pn_ 6 56 Y0.q30 HT_.out ?_
              refine pn_ 7 57 Y0.q31 HT_.out ?_
              refine pn_ 8 58 Y0.q41 HT_.out ?_
              refine pn_ 9 59 Y0.q42 HT_.out ?_
              refine pn_ 10 60 Y0.q43 HT_.out ?_
              refine pn_ 11 61 Y0.q35 HT_.out ?_
              refine pn_ 12 62 Y0.q36 HT_.out ?_
              refine pn_ 13 63 Y0.q37 HT_.out ?_
              refine pn_ 14 64 Y0.q38 HT_.out ?_
              refine pn_ 15 65 Y0.q39 HT_.out ?_
              refine pu_ 16 66 Y0.q40 HT_.out ?_
              refine done_ (done_of HT_.out (by kernel_rfl)) ?_
              try go_wp2
              go_meet
              case rel=>exact ⟨_,(false),(z2_),H',⟨z27_ HK1.out HJ15.out HK3.out⟩,⟨z25_ HO_0.out⟩,⟨z10_ HK.out⟩,⟨z5_ HB.out⟩⟩
            case rest=>as_aux_lemma =>
             clear HC27
             try clear c1
             try clear p1
             try clear q1
             try clear hx1
             try clear c2
             try clear p2
             try clear q2
             try clear hx2
             try clear c3
             try clear c6
             try clear c6b0
             try clear p6
             try clear c7
             try clear c7b0
             try clear c8
             try clear c8b0
             try clear c9
             try clear c9b0
             try clear c10
             try clear p10
             try clear q10
             try clear hx10
             try clear hf10
             try clear c11
             try clear p11
             try clear q11
             try clear hx11
             try clear hf11
             try clear c14
             try clear c15
             try clear c17
             try clear c17b0
             try clear c18
             try clear c18b0
             try clear c19
             try clear c19b0
             try clear p19
             try clear q19
             try clear hx19
             try clear c20
             try clear c20b0
             try clear p20
             try clear q20
             try clear hx20
             try clear c21
             try clear c21b0
             try clear c26
             try clear c28
             try clear c28b0
             try clear c29
             try clear c29b0
             try clear c30
             try clear c30b0
             try clear c31
             try clear c31b0
             try clear c32
             try clear c32b0
             try clear hx10_0
             try clear hx10_1
             try clear hx11_0
             try clear hx11_1
             try clear hx192_0
             try clear hx192_1
             try clear hx193_0
             try clear hx193_1
             try clear hx196_0
             try clear hx196_1
             try clear hx197_0
             try clear hx197_1
             try clear hx199_0
             try clear hx199_1
             try clear hx200_0
             try clear hx200_1
             try clear p1
             try clear p10
             try clear p11
             try clear p19
             try clear p192
             try clear p193
             try clear p196
             try clear p197
             try clear p199
             try clear p2
             try clear p200
             try clear p6
             try clear q1
             try clear q10
             try clear q11
             try clear q19
             try clear q192
             try clear q193
             try clear q196
             try clear q197
             try clear q199
             try clear q200
             obtain ⟨kq,x66_26,rfl,HA,HJ26,HO_0,HK,HB⟩:=hcut
             cases kq with
             | zero=>exact absurd HA.out (by simp [Y0.j3])
             | succ kj26 =>
              have H:=HA.out
              clear HA
              simp only [Y0.j3] at H
              by_cases c37:x66_26=true
              ·subst c37
               have H1:(Y0.l1 kj26 y195 a1 x12_1 (wrap64 (x13_3-1)))=some (r1,r2,r3):=by rw [if_pos rfl] at H;exact H
               clear H
               have H:=H1
               clear H1
               have H':=aM H
               clear H
               go_wp2
               go_roundg kj26
               case measure=>have:=HK1.out;have:=HJ15.out;have:=HK3.out;have:=HJ26.out;omega
               case rel=>exact ⟨(wrap64 (x13_3-1)),(z2_),H',⟨by have:=HK1.out;have:=HJ15.out;have:=HK3.out;have:=HJ26.out;omega⟩,⟨z25_ HO_0.out⟩,⟨z10_ HK.out⟩,⟨z5_ HB.out⟩⟩
              ·replace c37:=Bool.eq_false_iff.mpr c37
               subst c37
               have H1:(if x12_1>x13_3 then (if 0≤a1 then (if a1<(y195.length:Int) then (if 0≤x13_3 then (if x13_3<(y195.length:Int) then (some (x13_3,true,((y195.set (x13_3:Int).toNat (⟨(rd_T77 y195 a1).f0,(rd_T77 y195 a1).f1⟩:S77)).set (a1:Int).toNat (⟨(rd_T77 y195 x13_3).f0,(rd_T77 y195 x13_3).f1⟩:S77)))) else (none)) else (none)) else (none)) else (none)) else (if 0≤x13_3 then (if x13_3<(y195.length:Int) then (if 0≤x12_1 then (if x12_1<(y195.length:Int) then (Y0.l2 kj26 ((y195.set (x12_1:Int).toNat (⟨(rd_T77 y195 x13_3).f0,(rd_T77 y195 x13_3).f1⟩:S77)).set (x13_3:Int).toNat (⟨(rd_T77 y195 x12_1).f0,(rd_T77 y195 x12_1).f1⟩:S77)) a1 (wrap64 (x12_1+1)) (wrap64 (x13_3-1))) else (none)) else (none)) else (none)) else (none)))=some (r1,r2,r3):=by rw [if_neg (show ¬ (false=true) by decide)] at H;exact H
               clear H
               have H:=H1
               clear H1
               by_cases c38:x12_1>x13_3
               ·rw [if_pos c38] at H
                have c38b0:decide (x13_3<x12_1)=true:=dE c38
                clear c38
                by_cases c39:0≤a1
                ·rw [if_pos c39] at H
                 have c39b0:decide (0≤a1)=true:=dE c39
                 clear c39
                 by_cases c40:a1<(y195.length:Int)
                 ·rw [if_pos c40] at H
                  have c40b0:decide (a1<(y195.length:Int))=true:=dE c40
                  clear c40
                  by_cases c41:0≤x13_3
                  ·rw [if_pos c41] at H
                   have c41b0:decide (0≤x13_3)=true:=dE c41
                   clear c41
                   by_cases c42:x13_3<(y195.length:Int)
                   ·rw [if_pos c42] at H
                    have c42b0:decide (x13_3<(y195.length:Int))=true:=dE c42
                    clear c42
                    obtain ⟨y204,hy204⟩:∃ y_:List (S77),y_=(y195.set (x13_3:Int).toNat (⟨(rd_T77 y195 a1).f0,(rd_T77 y195 a1).f1⟩:S77)):=⟨_,rfl⟩
                    replace H:(some (x13_3,true,(y204.set (a1:Int).toNat (⟨(rd_T77 y195 x13_3).f0,(rd_T77 y195 x13_3).f1⟩:S77))))=some (r1,r2,r3):=by first | (rw [hy204];with_reducible exact H) | (have H2_:=(Option.bind_some _ _).symm.trans H;rw [hy204];with_reducible exact H2_) | (have H2_:=(Option.bind_some _ _).symm.trans H;with_reducible exact H2_) | with_reducible exact H | (rw [hy204];exact H) | exact H
                    have Ny204:=aM hy204
                    clear hy204
                    obtain ⟨y205,hy205⟩:∃ y_:List (S77),y_=(y204.set (a1:Int).toNat (⟨(rd_T77 y195 x13_3).f0,(rd_T77 y195 x13_3).f1⟩:S77)):=⟨_,rfl⟩
                    replace H:(some (x13_3,true,y205))=some (r1,r2,r3):=by first | (rw [hy205];with_reducible exact H) | (have H2_:=(Option.bind_some _ _).symm.trans H;rw [hy205];with_reducible exact H2_) | (have H2_:=(Option.bind_some _ _).symm.trans H;with_reducible exact H2_) | with_reducible exact H | (rw [hy205];exact H) | exact H
                    have Ny205:=aM hy205
                    clear hy205
                    simp only [Option.some.injEq,Prod.mk.injEq] at H
                    obtain ⟨rfl,rfl,rfl⟩:=H
                    try go_wp2
                    have n0_:=aM (Kd.R_drew HO_0.out)
                    have n1_:=aM (Kept.drew HK.out)
                    have n2_:=aM (below_drew1 HB.out)
                    clear HO_0
                    clear HK
                    clear HB
                    have HO_0:=n0_
                    have HK:=n1_
                    have HB:=n2_
                    clear n0_ n1_ n2_
                    have p202:0≤(a1:Int):=dT (z0_)
                    have q202:a1<(y195.length:Int):=dT (z0_)
                    obtain ⟨ad202,e202,hx202_0,hx202_1⟩:=at_T77 (Kd.R_reads' HO_0.out).2.2 a1 p202 q202
                    obtain rfl:(⟨go10,0,none⟩:Addr)=ad202:=(by injection e202)
                    (first | simp only [add_plain] at hx202_0 | simp only [add_at] at hx202_0 | simp only [Addr.add,Nat.zero_add] at hx202_0 | skip)
                    (first | simp only [add_plain] at hx202_1 | simp only [add_at] at hx202_1 | simp only [Addr.add,Nat.zero_add] at hx202_1 | skip)
                    replace p202:=eq_true p202
                    replace q202:=eq_true q202
                    have p203:0≤(x13_3:Int):=dT (z0_)
                    have q203:x13_3<(y195.length:Int):=dT (z0_)
                    obtain ⟨ad203,e203,hx203_0,hx203_1⟩:=at_T77 (Kd.R_reads' HO_0.out).2.2 x13_3 p203 q203
                    obtain rfl:(⟨go10,0,none⟩:Addr)=ad203:=(by injection e203)
                    (first | simp only [add_plain] at hx203_0 | simp only [add_at] at hx203_0 | simp only [Addr.add,Nat.zero_add] at hx203_0 | skip)
                    (first | simp only [add_plain] at hx203_1 | simp only [add_at] at hx203_1 | simp only [Addr.add,Nat.zero_add] at hx203_1 | skip)
                    replace p203:=eq_true p203
                    replace q203:=eq_true q203
                    have p43:0≤(x13_3:Int):=dT (z0_)
                    have q43:(x13_3:Int)<((y195.length:Int):Int):=dT (z0_)
                    obtain ⟨ce43,hcl43,hM43,hcc43,hfr43⟩:=Kd.R_elem HO_0.out z77 (x13_3:Int) p43 q43
                    obtain rfl:=k77_openM hM43
                    have hx43_0:World.cell? _ ⟨go10,(x13_3:Int).toNat*2,none⟩=some (.int .i64 ((rd_T77 y195 x13_3).f0)):=hcc43 0 _ rfl
                    have hx43_1:World.cell? _ ⟨go10,(x13_3:Int).toNat*2+1,none⟩=some (.int .i64 ((rd_T77 y195 x13_3).f1)):=hcc43 1 _ rfl
                    have hf43_0:World.frozen? _ ⟨go10,(x13_3:Int).toNat*2,none⟩=false:=hfr43 0
                    have hf43_1:World.frozen? _ ⟨go10,(x13_3:Int).toNat*2+1,none⟩=false:=hfr43 1
                    clear hcl43 hcc43 hfr43 hM43
                    replace p43:=eq_true p43
                    replace q43:=eq_true q43
                    obtain ⟨ce46,hcl46,hM46,hcc46,hfr46⟩:=Kd.R_elem HO_0.out z77 (x13_3:Int) (dT (z0_)) (z48_ HO_0.out)
                    obtain rfl:=k77_openM hM46
                    have HP46:=(Kd.R_seg HO_0.out (x13_3:Int) (dT (z0_)) (z48_ HO_0.out) (seg:=[.int .i64 ((rd_T77 y195 a1).f0),.int .i64 ((rd_T77 y195 a1).f1)]) (j:=0) hcl46 hcc46 (show 2≤2 from by decide) (x':=(⟨(rd_T77 y195 a1).f0,(rd_T77 y195 a1).f1⟩:S77)) (k77_mkM _ _ _ (⟨(rd_T77 y195 a1).f0,(rd_T77 y195 a1).f1⟩:S77) ) (fun _ hk=>hk)).1
                    rw [← Ny204.out] at HP46
                    have HQ46:=aM HP46
                    clear hcl46 hcc46 hfr46 hM46 HP46
                    have p44:0≤(a1:Int):=dT (z0_)
                    have q44:(a1:Int)<((y195.length:Int):Int):=dT (z0_)
                    obtain ⟨ce44,hcl44,hM44,hcc44,hfr44⟩:=Kd.R_elem HQ46.out z77 (a1:Int) p44 q44
                    obtain rfl:=k77_openM hM44
                    have hx44_0:World.cell? _ ⟨go10,(a1:Int).toNat*2,none⟩=some (.int .i64 ((rd_T77 y204 a1).f0)):=hcc44 0 _ rfl
                    have hx44_1:World.cell? _ ⟨go10,(a1:Int).toNat*2+1,none⟩=some (.int .i64 ((rd_T77 y204 a1).f1)):=hcc44 1 _ rfl
                    have hf44_0:World.frozen? _ ⟨go10,(a1:Int).toNat*2,none⟩=false:=hfr44 0
                    have hf44_1:World.frozen? _ ⟨go10,(a1:Int).toNat*2+1,none⟩=false:=hfr44 1
                    clear hcl44 hcc44 hfr44 hM44
                    replace p44:=eq_true p44
                    replace q44:=eq_true q44
                    obtain ⟨ce47,hcl47,hM47,hcc47,hfr47⟩:=Kd.R_elem HQ46.out z77 (a1:Int) (dT (z0_)) (by have h_:(a1:Int)<((y195.length:Int):Int):=dT (by first | (with_reducible assumption) | assumption);first | exact h_ | (have e_:=(Kd.R_reads' HO_0.out).1;omega) | simpa using h_)
                    obtain rfl:=k77_openM hM47
                    have HP47:=(Kd.R_seg HQ46.out (a1:Int) (dT (z0_)) (by have h_:(a1:Int)<((y195.length:Int):Int):=dT (by first | (with_reducible assumption) | assumption);first | exact h_ | (have e_:=(Kd.R_reads' HO_0.out).1;omega) | simpa using h_) (seg:=[.int .i64 ((rd_T77 y195 x13_3).f0),.int .i64 ((rd_T77 y195 x13_3).f1)]) (j:=0) hcl47 hcc47 (show 2≤2 from by decide) (x':=(⟨(rd_T77 y195 x13_3).f0,(rd_T77 y195 x13_3).f1⟩:S77)) (k77_mkM _ _ _ (⟨(rd_T77 y195 x13_3).f0,(rd_T77 y195 x13_3).f1⟩:S77) ) (fun _ hk=>hk)).1
                    rw [← Ny205.out] at HP47
                    have HQ47:=aM HP47
                    clear hcl47 hcc47 hfr47 hM47 HP47
                    refine start_ (n:=16) (S:=fun w'=>w'.cell? ⟨go10,(a1).toNat*2,none⟩=some (.int .i64 ((rd_T77 y195 a1).f0))∧w'.cell? ⟨go10,(a1).toNat*2+1,none⟩=some (.int .i64 ((rd_T77 y195 a1).f1))∧w'.cell? ⟨go10,(x13_3).toNat*2,none⟩=some (.int .i64 ((rd_T77 y195 x13_3).f0))∧w'.cell? ⟨go10,(x13_3).toNat*2+1,none⟩=some (.int .i64 ((rd_T77 y195 x13_3).f1))) (ds:=[13,15]) Y0.q0 (by kernel_rfl) rfl rfl ⟨hx202_0,hx202_1,hx203_0,hx203_1⟩ (fun hHeld=>?_);refine with_tabW Y0.tab8 Y0.bits8 (fun HT_ HW_=>?_)
                    generalize wc.drew=w45 at HO_0 HK HB HQ46 HQ47 hf43_0 hf43_1 hf44_0 hf44_1 hx202_0 hx202_1 hx203_0 hx203_1 hx43_0 hx43_1 hx44_0 hx44_1 hHeld ⊢
                    have hz44_0:(w45.setCell ⟨go10,(x13_3:Int).toNat*2,none⟩ (.int .i64 ((rd_T77 y195 a1).f0))).cell? ⟨go10,(a1:Int).toNat*2,none⟩=some (.int .i64 ((rd_T77 y204 a1).f0)):=by have h_:=hx44_0;exact ((show ((w45.setCell ⟨go10,(x13_3:Int).toNat*2,none⟩ (.int .i64 ((rd_T77 y195 a1).f0))).setCell ⟨go10,(x13_3:Int).toNat*2+1,none⟩ (.int .i64 ((rd_T77 y195 a1).f1))).cell? ⟨go10,(a1:Int).toNat*2,none⟩=(w45.setCell ⟨go10,(x13_3:Int).toNat*2,none⟩ (.int .i64 ((rd_T77 y195 a1).f0))).cell? ⟨go10,(a1:Int).toNat*2,none⟩ from World.cell?_setCell_other _ _ _ _ (by intro e_;injection e_ with e1_ e2_;omega)).symm.trans h_)
                    have hy44_0:w45.frozen? ⟨go10,(a1:Int).toNat*2,none⟩=false:=by have h_:=hf44_0;first | exact h_ | simpa only [World.frozen?_setCell] using h_ | simpa [World.setCells] using h_
                    have hz44_1:((w45.setCell ⟨go10,(x13_3:Int).toNat*2,none⟩ (.int .i64 ((rd_T77 y195 a1).f0))).setCell ⟨go10,(x13_3:Int).toNat*2+1,none⟩ (.int .i64 ((rd_T77 y195 a1).f1))).cell? ⟨go10,(a1:Int).toNat*2+1,none⟩=some (.int .i64 ((rd_T77 y204 a1).f1)):=by have h_:=hx44_1;exact h_
                    have hy44_1:w45.frozen? ⟨go10,(a1:Int).toNat*2+1,none⟩=false:=by have h_:=hf44_1;first | exact h_ | simpa only [World.frozen?_setCell] using h_ | simpa [World.setCells] using h_
                    refine pu_ 0 72 Y0.q1 HT_.out ?_
                    refine pu_ 1 73 Y0.q2 HT_.out ?_
                    refine pu_ 2 74 Y0.q3 HT_.out ?_
                    refine pu_ 3 75 Y0.q4 HT_.out ?_
                    refine pu_ 4 76 Y0.q5 HT_.out ?_
                    refine pu_ 5 77 Y0.q6 HT_.out ?_
                    refine pu_ 6 78 Y0.q7 HT_.out ?_
                    refine pu_ 8 80 Y0.q8 HT_.out ?_
                    refine pu_ 9 81 Y0.q9 HT_.out ?_
                    refine pu_ 10 82 Y0.q10 HT_.out ?_
                    refine tk4_ 7 79 Y0.q11 HT_.out HW_.out hHeld ?_
                    refine tk4_ 11 83 Y0.q12 HT_.out HW_.out hHeld ?_
                    refine pu_ 12 84 Y0.q13 HT_.out ?_
                    refine last_ (i:=13) (N:=none) Y0.q14 rfl rfl (one_of HT_.out (by kernel_rfl)) (by decide) (fun K hK=>?_)
                    refine skip_ (w1:=?_) (by rfl) rfl ?_ ?_
                    rotate_left
                    ·go_simp
                     rfl
                    refine hK.out _ _ ?_
                    clear hK K
                    refine pu_ 14 85 Y0.q15 HT_.out ?_
                    refine last_ (i:=15) (N:=none) Y0.q16 rfl rfl (one_of HT_.out (by kernel_rfl)) (by decide) (fun K hK=>?_)
                    refine skip_ (w1:=?_) (by rfl) rfl ?_ ?_
                    rotate_left
                    ·go_simp
                     rfl
                    refine hK.out _ _ ?_
                    clear hK K
                    refine done_ (done_of HT_.out (by kernel_rfl)) ?_
                    try go_wp2
                    go_ret2
                    exact ⟨z9_,(by first | exact (by (with_reducible repeat (first | apply Kd.R_alloc | apply Kd.R_drewN | apply Kd.R_drew));exact HQ47.out) | (simp only [hl0_1];exact (by (with_reducible repeat (first | apply Kd.R_alloc | apply Kd.R_drewN | apply Kd.R_drew));exact HQ47.out))),z41_ HB.out GB10.out,z40_ HK.out HMgo10.out⟩
                   ·rw [if_neg c42] at H
                    exact nO H
                  ·rw [if_neg c41] at H
                   exact nO H
                 ·rw [if_neg c40] at H
                  exact nO H
                ·rw [if_neg c39] at H
                 exact nO H
               ·rw [if_neg c38] at H
                have c38b0:decide (x13_3<x12_1)=false:=dF c38
                clear c38
                by_cases c48:0≤x13_3
                ·rw [if_pos c48] at H
                 have c48b0:decide (0≤x13_3)=true:=dE c48
                 clear c48
                 by_cases c49:x13_3<(y195.length:Int)
                 ·rw [if_pos c49] at H
                  have c49b0:decide (x13_3<(y195.length:Int))=true:=dE c49
                  clear c49
                  by_cases c50:0≤x12_1
                  ·rw [if_pos c50] at H
                   have c50b0:decide (0≤x12_1)=true:=dE c50
                   clear c50
                   by_cases c51:x12_1<(y195.length:Int)
                   ·rw [if_pos c51] at H
                    have c51b0:decide (x12_1<(y195.length:Int))=true:=dE c51
                    clear c51
                    obtain ⟨y208,hy208⟩:∃ y_:List (S77),y_=(y195.set (x12_1:Int).toNat (⟨(rd_T77 y195 x13_3).f0,(rd_T77 y195 x13_3).f1⟩:S77)):=⟨_,rfl⟩
                    replace H:(Y0.l2 kj26 (y208.set (x13_3:Int).toNat (⟨(rd_T77 y195 x12_1).f0,(rd_T77 y195 x12_1).f1⟩:S77)) a1 (wrap64 (x12_1+1)) (wrap64 (x13_3-1)))=some (r1,r2,r3):=by first | (rw [hy208];with_reducible exact H) | (have H2_:=(Option.bind_some _ _).symm.trans H;rw [hy208];with_reducible exact H2_) | (have H2_:=(Option.bind_some _ _).symm.trans H;with_reducible exact H2_) | with_reducible exact H | (rw [hy208];exact H) | exact H
                    have Ny208:=aM hy208
                    clear hy208
                    obtain ⟨y209,hy209⟩:∃ y_:List (S77),y_=(y208.set (x13_3:Int).toNat (⟨(rd_T77 y195 x12_1).f0,(rd_T77 y195 x12_1).f1⟩:S77)):=⟨_,rfl⟩
                    replace H:(Y0.l2 kj26 y209 a1 (wrap64 (x12_1+1)) (wrap64 (x13_3-1)))=some (r1,r2,r3):=by first | (rw [hy209];with_reducible exact H) | (have H2_:=(Option.bind_some _ _).symm.trans H;rw [hy209];with_reducible exact H2_) | (have H2_:=(Option.bind_some _ _).symm.trans H;with_reducible exact H2_) | with_reducible exact H | (rw [hy209];exact H) | exact H
                    have Ny209:=aM hy209
                    clear hy209
                    have H':=aM H
                    clear H
                    try go_wp2
                    have n0_:=aM (Kd.R_drew HO_0.out)
                    have n1_:=aM (Kept.drew HK.out)
                    have n2_:=aM (below_drew1 HB.out)
                    clear HO_0
                    clear HK
                    clear HB
                    have HO_0:=n0_
                    have HK:=n1_
                    have HB:=n2_
                    clear n0_ n1_ n2_
                    have p206:0≤(x13_3:Int):=dT (z0_)
                    have q206:x13_3<(y195.length:Int):=dT (z0_)
                    obtain ⟨ad206,e206,hx206_0,hx206_1⟩:=at_T77 (Kd.R_reads' HO_0.out).2.2 x13_3 p206 q206
                    obtain rfl:(⟨go10,0,none⟩:Addr)=ad206:=(by injection e206)
                    (first | simp only [add_plain] at hx206_0 | simp only [add_at] at hx206_0 | simp only [Addr.add,Nat.zero_add] at hx206_0 | skip)
                    (first | simp only [add_plain] at hx206_1 | simp only [add_at] at hx206_1 | simp only [Addr.add,Nat.zero_add] at hx206_1 | skip)
                    replace p206:=eq_true p206
                    replace q206:=eq_true q206
                    have p207:0≤(x12_1:Int):=dT (z0_)
                    have q207:x12_1<(y195.length:Int):=dT (z0_)
                    obtain ⟨ad207,e207,hx207_0,hx207_1⟩:=at_T77 (Kd.R_reads' HO_0.out).2.2 x12_1 p207 q207
                    obtain rfl:(⟨go10,0,none⟩:Addr)=ad207:=(by injection e207)
                    (first | simp only [add_plain] at hx207_0 | simp only [add_at] at hx207_0 | simp only [Addr.add,Nat.zero_add] at hx207_0 | skip)
                    (first | simp only [add_plain] at hx207_1 | simp only [add_at] at hx207_1 | simp only [Addr.add,Nat.zero_add] at hx207_1 | skip)
                    replace p207:=eq_true p207
                    replace q207:=eq_true q207
                    have p52:0≤(x12_1:Int):=dT (z0_)
                    have q52:(x12_1:Int)<((y195.length:Int):Int):=dT (z0_)
                    obtain ⟨ce52,hcl52,hM52,hcc52,hfr52⟩:=Kd.R_elem HO_0.out z77 (x12_1:Int) p52 q52
                    obtain rfl:=k77_openM hM52
                    have hx52_0:World.cell? _ ⟨go10,(x12_1:Int).toNat*2,none⟩=some (.int .i64 ((rd_T77 y195 x12_1).f0)):=hcc52 0 _ rfl
                    have hx52_1:World.cell? _ ⟨go10,(x12_1:Int).toNat*2+1,none⟩=some (.int .i64 ((rd_T77 y195 x12_1).f1)):=hcc52 1 _ rfl
                    have hf52_0:World.frozen? _ ⟨go10,(x12_1:Int).toNat*2,none⟩=false:=hfr52 0
                    have hf52_1:World.frozen? _ ⟨go10,(x12_1:Int).toNat*2+1,none⟩=false:=hfr52 1
                    clear hcl52 hcc52 hfr52 hM52
                    replace p52:=eq_true p52
                    replace q52:=eq_true q52
                    obtain ⟨ce55,hcl55,hM55,hcc55,hfr55⟩:=Kd.R_elem HO_0.out z77 (x12_1:Int) (dT (z0_)) (by have h_:(x12_1:Int)<((y195.length:Int):Int):=dT (by first | (with_reducible assumption) | assumption);first | exact h_ | (have e_:=(Kd.R_reads' HO_0.out).1;omega) | simpa using h_)
                    obtain rfl:=k77_openM hM55
                    have HP55:=(Kd.R_seg HO_0.out (x12_1:Int) (dT (z0_)) (by have h_:(x12_1:Int)<((y195.length:Int):Int):=dT (by first | (with_reducible assumption) | assumption);first | exact h_ | (have e_:=(Kd.R_reads' HO_0.out).1;omega) | simpa using h_) (seg:=[.int .i64 ((rd_T77 y195 x13_3).f0),.int .i64 ((rd_T77 y195 x13_3).f1)]) (j:=0) hcl55 hcc55 (show 2≤2 from by decide) (x':=(⟨(rd_T77 y195 x13_3).f0,(rd_T77 y195 x13_3).f1⟩:S77)) (k77_mkM _ _ _ (⟨(rd_T77 y195 x13_3).f0,(rd_T77 y195 x13_3).f1⟩:S77) ) (fun _ hk=>hk)).1
                    rw [← Ny208.out] at HP55
                    have HQ55:=aM HP55
                    clear hcl55 hcc55 hfr55 hM55 HP55
                    have p53:0≤(x13_3:Int):=dT (z0_)
                    have q53:(x13_3:Int)<((y195.length:Int):Int):=dT (z0_)
                    obtain ⟨ce53,hcl53,hM53,hcc53,hfr53⟩:=Kd.R_elem HQ55.out z77 (x13_3:Int) p53 q53
                    obtain rfl:=k77_openM hM53
                    have hx53_0:World.cell? _ ⟨go10,(x13_3:Int).toNat*2,none⟩=some (.int .i64 ((rd_T77 y208 x13_3).f0)):=hcc53 0 _ rfl
                    have hx53_1:World.cell? _ ⟨go10,(x13_3:Int).toNat*2+1,none⟩=some (.int .i64 ((rd_T77 y208 x13_3).f1)):=hcc53 1 _ rfl
                    have hf53_0:World.frozen? _ ⟨go10,(x13_3:Int).toNat*2,none⟩=false:=hfr53 0
                    have hf53_1:World.frozen? _ ⟨go10,(x13_3:Int).toNat*2+1,none⟩=false:=hfr53 1
                    clear hcl53 hcc53 hfr53 hM53
                    replace p53:=eq_true p53
                    replace q53:=eq_true q53
                    obtain ⟨ce56,hcl56,hM56,hcc56,hfr56⟩:=Kd.R_elem HQ55.out z77 (x13_3:Int) (dT (z0_)) (z48_ HO_0.out)
                    obtain rfl:=k77_openM hM56
                    have HP56:=(Kd.R_seg HQ55.out (x13_3:Int) (dT (z0_)) (z48_ HO_0.out) (seg:=[.int .i64 ((rd_T77 y195 x12_1).f0),.int .i64 ((rd_T77 y195 x12_1).f1)]) (j:=0) hcl56 hcc56 (show 2≤2 from by decide) (x':=(⟨(rd_T77 y195 x12_1).f0,(rd_T77 y195 x12_1).f1⟩:S77)) (k77_mkM _ _ _ (⟨(rd_T77 y195 x12_1).f0,(rd_T77 y195 x12_1).f1⟩:S77) ) (fun _ hk=>hk)).1
                    rw [← Ny209.out] at HP56
                    have HQ56:=aM HP56
                    clear hcl56 hcc56 hfr56 hM56 HP56
                    refine start_ (n:=16) (S:=fun w'=>w'.cell? ⟨go10,(x13_3).toNat*2,none⟩=some (.int .i64 ((rd_T77 y195 x13_3).f0))∧w'.cell? ⟨go10,(x13_3).toNat*2+1,none⟩=some (.int .i64 ((rd_T77 y195 x13_3).f1))∧w'.cell? ⟨go10,(x12_1).toNat*2,none⟩=some (.int .i64 ((rd_T77 y195 x12_1).f0))∧w'.cell? ⟨go10,(x12_1).toNat*2+1,none⟩=some (.int .i64 ((rd_T77 y195 x12_1).f1))) (ds:=[13,15]) Y0.q0 (by kernel_rfl) rfl rfl ⟨hx206_0,hx206_1,hx207_0,hx207_1⟩ (fun hHeld=>?_);refine with_tabW Y0.tab10 Y0.bits10 (fun HT_ HW_=>?_)
                    generalize wc.drew=w54 at HO_0 HK HB HQ55 HQ56 hf52_0 hf52_1 hf53_0 hf53_1 hx206_0 hx206_1 hx207_0 hx207_1 hx52_0 hx52_1 hx53_0 hx53_1 hHeld ⊢
                    have hz53_0:(w54.setCell ⟨go10,(x12_1:Int).toNat*2,none⟩ (.int .i64 ((rd_T77 y195 x13_3).f0))).cell? ⟨go10,(x13_3:Int).toNat*2,none⟩=some (.int .i64 ((rd_T77 y208 x13_3).f0)):=by have h_:=hx53_0;exact ((show ((w54.setCell ⟨go10,(x12_1:Int).toNat*2,none⟩ (.int .i64 ((rd_T77 y195 x13_3).f0))).setCell ⟨go10,(x12_1:Int).toNat*2+1,none⟩ (.int .i64 ((rd_T77 y195 x13_3).f1))).cell? ⟨go10,(x13_3:Int).toNat*2,none⟩=(w54.setCell ⟨go10,(x12_1:Int).toNat*2,none⟩ (.int .i64 ((rd_T77 y195 x13_3).f0))).cell? ⟨go10,(x13_3:Int).toNat*2,none⟩ from World.cell?_setCell_other _ _ _ _ (by intro e_;injection e_ with e1_ e2_;omega)).symm.trans h_)
                    have hy53_0:w54.frozen? ⟨go10,(x13_3:Int).toNat*2,none⟩=false:=by have h_:=hf53_0;first | exact h_ | simpa only [World.frozen?_setCell] using h_ | simpa [World.setCells] using h_
                    have hz53_1:((w54.setCell ⟨go10,(x12_1:Int).toNat*2,none⟩ (.int .i64 ((rd_T77 y195 x13_3).f0))).setCell ⟨go10,(x12_1:Int).toNat*2+1,none⟩ (.int .i64 ((rd_T77 y195 x13_3).f1))).cell? ⟨go10,(x13_3:Int).toNat*2+1,none⟩=some (.int .i64 ((rd_T77 y208 x13_3).f1)):=by have h_:=hx53_1;exact h_
                    have hy53_1:w54.frozen? ⟨go10,(x13_3:Int).toNat*2+1,none⟩=false:=by have h_:=hf53_1;first | exact h_ | simpa only [World.frozen?_setCell] using h_ | simpa [World.setCells] using h_
                    refine pu_ 0 87 Y0.q1 HT_.out ?_
                    refine pu_ 1 88 Y0.q2 HT_.out ?_
                    refine pu_ 2 89 Y0.q3 HT_.out ?_
                    refine pu_ 3 90 Y0.q4 HT_.out ?_
                    refine pu_ 4 91 Y0.q5 HT_.out ?_
                    refine pu_ 5 92 Y0.q6 HT_.out ?_
                    refine pu_ 6 93 Y0.q7 HT_.out ?_
                    refine pu_ 8 95 Y0.q8 HT_.out ?_
                    refine pu_ 9 96 Y0.q9 HT_.out ?_
                    refine pu_ 10 97 Y0.q10 HT_.out ?_
                    refine tk4_ 7 94 Y0.q11 HT_.out HW_.out hHeld ?_
                    refine tk4_ 11 98 Y0.q12 HT_.out HW_.out hHeld ?_
                    refine pu_ 12 99 Y0.q13 HT_.out ?_
                    refine last_ (i:=13) (N:=none) Y0.q14 rfl rfl (one_of HT_.out (by kernel_rfl)) (by decide) (fun K hK=>?_)
                    refine skip_ (w1:=?_) (by rfl) rfl ?_ ?_
                    rotate_left
                    ·go_simp
                     rfl
                    refine hK.out _ _ ?_
                    clear hK K
                    refine pu_ 14 100 Y0.q15 HT_.out ?_
                    refine last_ (i:=15) (N:=none) Y0.q16 rfl rfl (one_of HT_.out (by kernel_rfl)) (by decide) (fun K hK=>?_)
                    refine skip_ (w1:=?_) (by rfl) rfl ?_ ?_
                    rotate_left
                    ·go_simp
                     rfl
                    refine hK.out _ _ ?_
                    clear hK K
                    refine done_ (done_of HT_.out (by kernel_rfl)) ?_
                    try go_wp2
                    go_loopg [12,13] kj26 (fun kq v12 v13 w'=>∃ (x0_5:List (S77)) (x12_5:Int) (x13_5:Int),v12 = .int .i64 x12_5∧v13 = .int .i64 x13_5∧Aside0 (Y0.l2 kq x0_5 a1 x12_5 x13_5=some (r1,r2,r3))∧Aside0 (kq≤kj26)∧Aside0 (Kd.R k77 77 w' w0.heap.size (fun k_=>(P0_ k_∨w.heap.size≤k_)) (.slice (some ⟨go10,0,none⟩) y195.length co13) x0_5)∧Aside0 (Kept w w' (fun k_=>P0_ k_))∧Aside0 (Below w0.heap.size w0 w'))
                    case atStart=>exact ⟨(y209),(wrap64 (x12_1+1)),(wrap64 (x13_3-1)),(z2_),(z2_),H',⟨Nat.le_refl _⟩,⟨z25_ HQ56.out⟩,⟨z40_ HK.out HMgo10.out⟩,⟨z41_ HB.out GB10.out⟩⟩
                    case round=>as_aux_lemma =>
                     clear H'
                     try clear c1
                     try clear p1
                     try clear q1
                     try clear hx1
                     try clear c2
                     try clear p2
                     try clear q2
                     try clear hx2
                     try clear c3
                     try clear c4
                     try clear p4
                     try clear q4
                     try clear hx4
                     try clear c5
                     try clear p5
                     try clear q5
                     try clear hx5
                     try clear hf5
                     try clear c6
                     try clear c6b0
                     try clear p6
                     try clear c7
                     try clear c7b0
                     try clear c8
                     try clear c8b0
                     try clear c9
                     try clear c9b0
                     try clear c10
                     try clear p10
                     try clear q10
                     try clear hx10
                     try clear hf10
                     try clear c11
                     try clear p11
                     try clear q11
                     try clear hx11
                     try clear hf11
                     try clear c14
                     try clear c15
                     try clear c17
                     try clear c17b0
                     try clear c18
                     try clear c18b0
                     try clear c19
                     try clear c19b0
                     try clear p19
                     try clear q19
                     try clear hx19
                     try clear c20
                     try clear c20b0
                     try clear p20
                     try clear q20
                     try clear hx20
                     try clear c21
                     try clear c21b0
                     try clear c26
                     try clear c28
                     try clear c28b0
                     try clear c29
                     try clear c29b0
                     try clear c30
                     try clear c30b0
                     try clear c31
                     try clear c31b0
                     try clear c32
                     try clear c32b0
                     try clear c37
                     try clear c38
                     try clear c38b0
                     try clear c39
                     try clear c39b0
                     try clear c40
                     try clear c40b0
                     try clear c41
                     try clear c41b0
                     try clear c42
                     try clear c42b0
                     try clear c43
                     try clear p43
                     try clear q43
                     try clear hx43
                     try clear hf43
                     try clear c44
                     try clear p44
                     try clear q44
                     try clear hx44
                     try clear hf44
                     try clear c46
                     try clear c47
                     try clear c48
                     try clear c48b0
                     try clear c49
                     try clear c49b0
                     try clear c50
                     try clear c50b0
                     try clear c51
                     try clear c51b0
                     try clear c52
                     try clear p52
                     try clear q52
                     try clear hx52
                     try clear hf52
                     try clear c53
                     try clear p53
                     try clear q53
                     try clear hx53
                     try clear hf53
                     try clear c55
                     try clear c56
                     try clear hx10_0
                     try clear hx10_1
                     try clear hx11_0
                     try clear hx11_1
                     try clear hx192_0
                     try clear hx192_1
                     try clear hx193_0
                     try clear hx193_1
                     try clear hx196_0
                     try clear hx196_1
                     try clear hx197_0
                     try clear hx197_1
                     try clear hx199_0
                     try clear hx199_1
                     try clear hx200_0
                     try clear hx200_1
                     try clear hx202_0
                     try clear hx202_1
                     try clear hx203_0
                     try clear hx203_1
                     try clear hx206_0
                     try clear hx206_1
                     try clear hx207_0
                     try clear hx207_1
                     try clear hx43_0
                     try clear hx43_1
                     try clear hx44_0
                     try clear hx44_1
                     try clear hx52_0
                     try clear hx52_1
                     try clear hx53_0
                     try clear hx53_1
                     try clear p1
                     try clear p10
                     try clear p11
                     try clear p19
                     try clear p192
                     try clear p193
                     try clear p196
                     try clear p197
                     try clear p199
                     try clear p2
                     try clear p20
                     try clear p200
                     try clear p202
                     try clear p203
                     try clear p206
                     try clear p207
                     try clear p43
                     try clear p44
                     try clear p52
                     try clear p53
                     try clear p6
                     try clear q1
                     try clear q10
                     try clear q11
                     try clear q19
                     try clear q192
                     try clear q193
                     try clear q196
                     try clear q197
                     try clear q199
                     try clear q2
                     try clear q20
                     try clear q200
                     try clear q202
                     try clear q203
                     try clear q206
                     try clear q207
                     try clear q43
                     try clear q44
                     try clear q52
                     try clear q53
                     obtain ⟨x0_5,x12_5,x13_5,rfl,rfl,HA,HK5,HO_0,HK,HB⟩:=hrel
                     have hl0_5:=(Kd.R_reads' HO_0.out).1
                     rw [hl0_5] at HO_0
                     (try simp only [hl0_5])
                     cases gk with
                     | zero=>exact absurd HA.out (by simp [Y0.l2])
                     | succ k5 =>
                      have H:=HA.out
                      clear HA
                      simp only [Y0.l2] at H
                      have H':=aM H
                      clear H
                      go_wp2
                      go_loopg [12] k5 (fun kq v12 w'=>∃ (x12_6:Int),v12 = .int .i64 x12_6∧Aside0 (Y0.l3 kq x0_5 a1 x12_6 x13_5=some (r1,r2,r3))∧Aside0 (kq≤k5)∧Aside0 (Kd.R k77 77 w' w0.heap.size (fun k_=>(P0_ k_∨w.heap.size≤k_)) (.slice (some ⟨go10,0,none⟩) x0_5.length co13) x0_5)∧Aside0 (Kept w w' (fun k_=>P0_ k_))∧Aside0 (Below w0.heap.size w0 w'))
                      case atStart=>exact ⟨(x12_5),(z2_),H',⟨Nat.le_refl _⟩,⟨z29_ HO_0.out⟩,⟨z10_ HK.out⟩,⟨z5_ HB.out⟩⟩
                      case round=>as_aux_lemma =>
                       clear H'
                       try clear c1
                       try clear p1
                       try clear q1
                       try clear hx1
                       try clear c2
                       try clear p2
                       try clear q2
                       try clear hx2
                       try clear c3
                       try clear c4
                       try clear p4
                       try clear q4
                       try clear hx4
                       try clear c5
                       try clear p5
                       try clear q5
                       try clear hx5
                       try clear hf5
                       try clear c6
                       try clear c6b0
                       try clear p6
                       try clear c7
                       try clear c7b0
                       try clear c8
                       try clear c8b0
                       try clear c9
                       try clear c9b0
                       try clear c10
                       try clear p10
                       try clear q10
                       try clear hx10
                       try clear hf10
                       try clear c11
                       try clear p11
                       try clear q11
                       try clear hx11
                       try clear hf11
                       try clear c14
                       try clear c15
                       try clear c17
                       try clear c17b0
                       try clear c18
                       try clear c18b0
                       try clear c19
                       try clear c19b0
                       try clear p19
                       try clear q19
                       try clear hx19
                       try clear c20
                       try clear c20b0
                       try clear p20
                       try clear q20
                       try clear hx20
                       try clear c21
                       try clear c21b0
                       try clear c26
                       try clear c28
                       try clear c28b0
                       try clear c29
                       try clear c29b0
                       try clear c30
                       try clear c30b0
                       try clear c31
                       try clear c31b0
                       try clear c32
                       try clear c32b0
                       try clear c37
                       try clear c38
                       try clear c38b0
                       try clear c39
                       try clear c39b0
                       try clear c40
                       try clear c40b0
                       try clear c41
                       try clear c41b0
                       try clear c42
                       try clear c42b0
                       try clear c43
                       try clear p43
                       try clear q43
                       try clear hx43
                       try clear hf43
                       try clear c44
                       try clear p44
                       try clear q44
                       try clear hx44
                       try clear hf44
                       try clear c46
                       try clear c47
                       try clear c48
                       try clear c48b0
                       try clear c49
                       try clear c49b0
                       try clear c50
                       try clear c50b0
                       try clear c51
                       try clear c51b0
                       try clear c52
                       try clear p52
                       try clear q52
                       try clear hx52
                       try clear hf52
                       try clear c53
                       try clear p53
                       try clear q53
                       try clear hx53
                       try clear hf53
                       try clear c55
                       try clear c56
                       try clear hx10_0
                       try clear hx10_1
                       try clear hx11_0
                       try clear hx11_1
                       try clear hx192_0
                       try clear hx192_1
                       try clear hx193_0
                       try clear hx193_1
                       try clear hx196_0
                       try clear hx196_1
                       try clear hx197_0
                       try clear hx197_1
                       try clear hx199_0
                       try clear hx199_1
                       try clear hx200_0
                       try clear hx200_1
                       try clear hx202_0
                       try clear hx202_1
                       try clear hx203_0
                       try clear hx203_1
                       try clear hx206_0
                       try clear hx206_1
                       try clear hx207_0
                       try clear hx207_1
                       try clear hx43_0
                       try clear hx43_1
                       try clear hx44_0
                       try clear hx44_1
                       try clear hx52_0
                       try clear hx52_1
                       try clear hx53_0
                       try clear hx53_1
                       try clear p1
                       try clear p10
                       try clear p11
                       try clear p19
                       try clear p192
                       try clear p193
                       try clear p196
                       try clear p197
                       try clear p199
                       try clear p2
                       try clear p20
                       try clear p200
                       try clear p202
                       try clear p203
                       try clear p206
                       try clear p207
                       try clear p4
                       try clear p43
                       try clear p44
                       try clear p5
                       try clear p52
                       try clear p53
                       try clear p6
                       try clear q1
                       try clear q10
                       try clear q11
                       try clear q19
                       try clear q192
                       try clear q193
                       try clear q196
                       try clear q197
                       try clear q199
                       try clear q2
                       try clear q20
                       try clear q200
                       try clear q202
                       try clear q203
                       try clear q206
                       try clear q207
                       try clear q4
                       try clear q43
                       try clear q44
                       try clear q5
                       try clear q52
                       try clear q53
                       obtain ⟨x12_6,rfl,HA,HK6,HO_0,HK,HB⟩:=hrel
                       cases gk with
                       | zero=>exact absurd HA.out (by simp [Y0.l3])
                       | succ k6 =>
                        have H:=HA.out
                        clear HA
                        simp only [Y0.l3] at H
                        have HC57:=aM H
                        clear H
                        go_upto_region 13 with (fail)
                        go_cut [120] (fun v120 wc=>∃ (kq:Nat) (x120_56:Bool),v120 = .bool x120_56∧Aside0 (Y0.j6 kq x0_5 a1 x12_6 x13_5 x120_56=some (r1,r2,r3))∧Aside0 (kq≤k6)∧Aside0 (Kd.R k77 77 wc w0.heap.size (fun k_=>(P0_ k_∨w.heap.size≤k_)) (.slice (some ⟨go10,0,none⟩) x0_5.length co13) x0_5)∧Aside0 (Kept w wc (fun k_=>P0_ k_))∧Aside0 (Below w0.heap.size w0 wc))
                        case first=>as_aux_lemma =>
                         have H:=HC57.out
                         clear HC57
                         by_cases c58:x12_6≤x13_5
                         ·rw [if_pos c58] at H
                          have c58b0:decide (x12_6≤x13_5)=true:=dE c58
                          clear c58
                          (first | rw [c58b0] | (simp only [i64_w,i32_w];rw [c58b0]) | skip)
                          by_cases c59:0≤x12_6
                          ·rw [if_pos c59] at H
                           have c59b0:decide (0≤x12_6)=true:=dE c59
                           clear c59
                           by_cases c60:x12_6<(x0_5.length:Int)
                           ·rw [if_pos c60] at H
                            have c60b0:decide (x12_6<(x0_5.length:Int))=true:=dE c60
                            clear c60
                            by_cases c61:0≤a1
                            ·rw [if_pos c61] at H
                             have c61b0:decide (0≤a1)=true:=dE c61
                             clear c61
                             by_cases c62:a1<(x0_5.length:Int)
                             ·rw [if_pos c62] at H
                              have c62b0:decide (a1<(x0_5.length:Int))=true:=dE c62
                              clear c62
                              replace H:=bS H
                              obtain ⟨t212,A630,H⟩:=H
                              replace H:(Y0.j6 k6 x0_5 a1 x12_6 x13_5 (decide (t212<0)))=some (r1,r2,r3):=H
                              have A63:=aM A630
                              clear A630
                              have H':=aM H
                              clear H
                              try go_wp2
                              have n0_:=aM (Kd.R_drew HO_0.out)
                              have n1_:=aM (Kept.drew HK.out)
                              have n2_:=aM (below_drew1 HB.out)
                              clear HO_0
                              clear HK
                              clear HB
                              have HO_0:=n0_
                              have HK:=n1_
                              have HB:=n2_
                              clear n0_ n1_ n2_
                              have p210:0≤(x12_6:Int):=dT (z0_)
                              have q210:x12_6<(x0_5.length:Int):=dT (z0_)
                              obtain ⟨ad210,e210,hx210_0,hx210_1⟩:=at_T77 (Kd.R_reads' HO_0.out).2.2 x12_6 p210 q210
                              obtain rfl:(⟨go10,0,none⟩:Addr)=ad210:=(by injection e210)
                              (first | simp only [add_plain] at hx210_0 | simp only [add_at] at hx210_0 | simp only [Addr.add,Nat.zero_add] at hx210_0 | skip)
                              (first | simp only [add_plain] at hx210_1 | simp only [add_at] at hx210_1 | simp only [Addr.add,Nat.zero_add] at hx210_1 | skip)
                              replace p210:=eq_true p210
                              replace q210:=eq_true q210
                              have p211:0≤(a1:Int):=dT (z0_)
                              have q211:a1<(x0_5.length:Int):=dT (z0_)
                              obtain ⟨ad211,e211,hx211_0,hx211_1⟩:=at_T77 (Kd.R_reads' HO_0.out).2.2 a1 p211 q211
                              obtain rfl:(⟨go10,0,none⟩:Addr)=ad211:=(by injection e211)
                              (first | simp only [add_plain] at hx211_0 | simp only [add_at] at hx211_0 | simp only [Addr.add,Nat.zero_add] at hx211_0 | skip)
                              (first | simp only [add_plain] at hx211_1 | simp only [add_at] at hx211_1 | simp only [Addr.add,Nat.zero_add] at hx211_1 | skip)
                              replace p211:=eq_true p211
                              replace q211:=eq_true q211
                              refine start_ (n:=16) (S:=fun w'=>w'.cell? ⟨go10,(x12_6).toNat*2,none⟩=some (.int .i64 ((rd_T77 x0_5 x12_6).f0))∧w'.cell? ⟨go10,(x12_6).toNat*2+1,none⟩=some (.int .i64 ((rd_T77 x0_5 x12_6).f1))∧w'.cell? ⟨go10,(a1).toNat*2,none⟩=some (.int .i64 ((rd_T77 x0_5 a1).f0))∧w'.cell? ⟨go10,(a1).toNat*2+1,none⟩=some (.int .i64 ((rd_T77 x0_5 a1).f1))) (ds:=[]) Y0.q0 (by kernel_rfl) rfl rfl ⟨hx210_0,hx210_1,hx211_0,hx211_1⟩ (fun hHeld=>?_);refine with_tabW Y0.tab13 Y0.bits13 (fun HT_ HW_=>?_)
                              generalize wr.drew=w64 at HO_0 HK HB hx210_0 hx210_1 hx211_0 hx211_1 hHeld ⊢
                              refine pu_ 0 105 Y0.q1 HT_.out ?_
                              refine pu_ 1 106 Y0.q2 HT_.out ?_
                              refine pu_ 2 107 Y0.q3 HT_.out ?_
                              refine pu_ 3 108 Y0.q4 HT_.out ?_
                              refine pu_ 4 109 Y0.q5 HT_.out ?_
                              refine pu_ 5 110 Y0.q6 HT_.out ?_
                              refine pu_ 6 111 Y0.q7 HT_.out ?_
                              refine pu_ 7 112 Y0.q17 HT_.out ?_
                              refine pu_ 9 114 Y0.q18 HT_.out ?_
                              refine pu_ 10 115 Y0.q19 HT_.out ?_
                              refine pu_ 11 116 Y0.q20 HT_.out ?_
                              refine tk4_ 8 113 Y0.q12 HT_.out HW_.out hHeld ?_
                              refine tk4_ 12 117 Y0.q13 HT_.out HW_.out hHeld ?_
                              refine o1_ 13 118 Y0.q14 HT_.out (fun K hK=>?_)
                              refine goesD_ Tryd.func78 (by kernel_rfl) rfl #[.agg #[.int .i64 ((rd_T77 x0_5 x12_6).f0),.int .i64 ((rd_T77 x0_5 x12_6).f1)],.agg #[.int .i64 ((rd_T77 x0_5 a1).f0),.int .i64 ((rd_T77 x0_5 a1).f1)]] (by rfl) rfl rfl (by rfl) (z42_) ?_
                              with_reducible refine (Y30.calls k6 ((rd_T77 x0_5 x12_6).f0) ((rd_T77 x0_5 x12_6).f1) ((rd_T77 x0_5 a1).f0) ((rd_T77 x0_5 a1).f1) t212 _ A63.out).mono ?_
                              rintro e w65 ⟨rfl,hb⟩
                              have HS0_:=(hb.cell (World.block_lt_of_cell? _ _ (hHeld.1))).trans (hHeld.1)
                              have HS1_:=(hb.cell (World.block_lt_of_cell? _ _ (hHeld.2.1))).trans (hHeld.2.1)
                              have HS2_:=(hb.cell (World.block_lt_of_cell? _ _ (hHeld.2.2.1))).trans (hHeld.2.2.1)
                              have HS3_:=(hb.cell (World.block_lt_of_cell? _ _ (hHeld.2.2.2))).trans (hHeld.2.2.2)
                              refine ⟨_,rfl,?_⟩
                              have n0_:=aM (Kd.R_below (z1_ HO_0.out) hb)
                              have n1_:=aM (Kept.below (S:=(fun k_=>P0_ k_)) (z10_ HK.out) hb)
                              have n2_:=aM (below_step (z5_ HB.out) hb)
                              clear HO_0
                              clear HK
                              clear HB
                              have HO_0:=n0_
                              have HK:=n1_
                              have HB:=n2_
                              clear n0_ n1_ n2_
                              (try clear hb)
                              refine hK.out _ _ ⟨HS0_,HS1_,HS2_,HS3_⟩ (fun hHeld=>?_)
                              clear hK K
                              refine nm_ 118 ?_
                              refine pu_ 14 119 Y0.q15 HT_.out ?_
                              refine pu_ 15 120 Y0.q16 HT_.out ?_
                              refine done_ (done_of HT_.out (by kernel_rfl)) ?_
                              try go_wp2
                              go_meet
                              case rel=>exact ⟨_,(decide (t212<0)),(z2_),H',⟨by have:=HK1.out;have:=HJ15.out;have:=HK3.out;have:=HJ26.out;have:=HK5.out;have:=HK6.out;first | omega | exact Nat.le_refl _⟩,⟨z29_ HO_0.out⟩,⟨z10_ HK.out⟩,⟨z5_ HB.out⟩⟩
                             ·rw [if_neg c62] at H
                              exact nO H
                            ·rw [if_neg c61] at H
                             exact nO H
                           ·rw [if_neg c60] at H
                            exact nO H
                          ·rw [if_neg c59] at H
                           exact nO H
                         ·rw [if_neg c58] at H
                          have c58b0:decide (x12_6≤x13_5)=false:=dF c58
                          clear c58
                          (first | rw [c58b0] | (simp only [i64_w,i32_w];rw [c58b0]) | skip)
                          have H':=aM H
                          clear H
                          try go_wp2
                          have n0_:=aM (Kd.R_drew HO_0.out)
                          have n1_:=aM (Kept.drew HK.out)
                          have n2_:=aM (below_drew1 HB.out)
                          clear HO_0
                          clear HK
                          clear HB
                          have HO_0:=n0_
                          have HK:=n1_
                          have HB:=n2_
                          clear n0_ n1_ n2_
                          refine start_ (n:=16) (S:=fun w'=>True) (ds:=[]) Y0.q0 (by kernel_rfl) rfl rfl trivial (fun hHeld=>?_);refine with_tabW Y0.tab13 Y0.bits13 (fun HT_ HW_=>?_)
                          generalize wr.drew=w66 at HO_0 HK HB hHeld ⊢
                          refine pu_ 0 105 Y0.q1 HT_.out ?_
                          refine pu_ 1 106 Y0.q2 HT_.out ?_
                          refine pu_ 2 107 Y0.q3 HT_.out ?_
                          refine pu_ 3 108 Y0.q4 HT_.out ?_
                          refine pn_ 4 109 Y0.q5 HT_.out ?_
                          refine pn_ 5 110 Y0.q6 HT_.out ?_
                          refine pn_ 6 111 Y0.q7 HT_.out ?_
                          refine pn_ 7 112 Y0.q17 HT_.out ?_
                          refine pn_ 8 113 Y0.q21 HT_.out ?_
                          refine pn_ 9 114 Y0.q22 HT_.out ?_
                          refine pn_ 10 115 Y0.q11 HT_.out ?_
                          refine pn_ 11 116 Y0.q12 HT_.out ?_
                          refine pn_ 12 117 Y0.q13 HT_.out ?_
                          refine pn_ 13 118 Y0.q14 HT_.out ?_
                          refine pn_ 14 119 Y0.q15 HT_.out ?_
                          refine pu_ 15 120 Y0.q16 HT_.out ?_
                          refine done_ (done_of HT_.out (by kernel_rfl)) ?_
                          try go_wp2
                          go_meet
                          case rel=>exact ⟨_,(false),(z2_),H',⟨by have:=HK1.out;have:=HJ15.out;have:=HK3.out;have:=HJ26.out;have:=HK5.out;have:=HK6.out;first | omega | exact Nat.le_refl _⟩,⟨z29_ HO_0.out⟩,⟨z10_ HK.out⟩,⟨z5_ HB.out⟩⟩
                        case rest=>as_aux_lemma =>
                         clear HC57
                         try clear c1
                         try clear p1
                         try clear q1
                         try clear hx1
                         try clear c2
                         try clear p2
                         try clear q2
                         try clear hx2
                         try clear c3
                         try clear c4
                         try clear p4
                         try clear q4
                         try clear hx4
                         try clear c5
                         try clear p5
                         try clear q5
                         try clear hx5
                         try clear hf5
                         try clear c6
                         try clear c6b0
                         try clear p6
                         try clear c7
                         try clear c7b0
                         try clear c8
                         try clear c8b0
                         try clear c9
                         try clear c9b0
                         try clear c10
                         try clear p10
                         try clear q10
                         try clear hx10
                         try clear hf10
                         try clear c11
                         try clear p11
                         try clear q11
                         try clear hx11
                         try clear hf11
                         try clear c14
                         try clear c15
                         try clear c17
                         try clear c17b0
                         try clear c18
                         try clear c18b0
                         try clear c19
                         try clear c19b0
                         try clear p19
                         try clear q19
                         try clear hx19
                         try clear c20
                         try clear c20b0
                         try clear p20
                         try clear q20
                         try clear hx20
                         try clear c21
                         try clear c21b0
                         try clear p21
                         try clear q21
                         try clear hx21
                         try clear c26
                         try clear c28
                         try clear c28b0
                         try clear c29
                         try clear c29b0
                         try clear c30
                         try clear c30b0
                         try clear c31
                         try clear c31b0
                         try clear c32
                         try clear c32b0
                         try clear c37
                         try clear c38
                         try clear c38b0
                         try clear c39
                         try clear c39b0
                         try clear c40
                         try clear c40b0
                         try clear c41
                         try clear c41b0
                         try clear c42
                         try clear c42b0
                         try clear c43
                         try clear p43
                         try clear q43
                         try clear hx43
                         try clear hf43
                         try clear c44
                         try clear p44
                         try clear q44
                         try clear hx44
                         try clear hf44
                         try clear c46
                         try clear c47
                         try clear c48
                         try clear c48b0
                         try clear c49
                         try clear c49b0
                         try clear c50
                         try clear c50b0
                         try clear c51
                         try clear c51b0
                         try clear c52
                         try clear p52
                         try clear q52
                         try clear hx52
                         try clear hf52
                         try clear c53
                         try clear p53
                         try clear q53
                         try clear hx53
                         try clear hf53
                         try clear c55
                         try clear c56
                         try clear c58
                         try clear c58b0
                         try clear c59
                         try clear c59b0
                         try clear c60
                         try clear c60b0
                         try clear c61
                         try clear c61b0
                         try clear c62
                         try clear c62b0
                         try clear hx10_0
                         try clear hx10_1
                         try clear hx11_0
                         try clear hx11_1
                         try clear hx192_0
                         try clear hx192_1
                         try clear hx193_0
                         try clear hx193_1
                         try clear hx196_0
                         try clear hx196_1
                         try clear hx197_0
                         try clear hx197_1
                         try clear hx199_0
                         try clear hx199_1
                         try clear hx200_0
                         try clear hx200_1
                         try clear hx202_0
                         try clear hx202_1
                         try clear hx203_0
                         try clear hx203_1
                         try clear hx206_0
                         try clear hx206_1
                         try clear hx207_0
                         try clear hx207_1
                         try clear hx210_0
                         try clear hx210_1
                         try clear hx211_0
                         try clear hx211_1
                         try clear hx43_0
                         try clear hx43_1
                         try clear hx44_0
                         try clear hx44_1
                         try clear hx52_0
                         try clear hx52_1
                         try clear hx53_0
                         try clear hx53_1
                         try clear p1
                         try clear p10
                         try clear p11
                         try clear p19
                         try clear p192
                         try clear p193
                         try clear p196
                         try clear p197
                         try clear p199
                         try clear p2
                         try clear p20
                         try clear p200
                         try clear p202
                         try clear p203
                         try clear p206
                         try clear p207
                         try clear p210
                         try clear p211
                         try clear p4
                         try clear p43
                         try clear p44
                         try clear p5
                         try clear p52
                         try clear p53
                         try clear p6
                         try clear q1
                         try clear q10
                         try clear q11
                         try clear q19
                         try clear q192
                         try clear q193
                         try clear q196
                         try clear q197
                         try clear q199
                         try clear q2
                         try clear q20
                         try clear q200
                         try clear q202
                         try clear q203
                         try clear q206
                         try clear q207
                         try clear q210
                         try clear q211
                         try clear q4
                         try clear q43
                         try clear q44
                         try clear q5
                         try clear q52
                         try clear q53
                         obtain ⟨kq,x120_56,rfl,HA,HJ56,HO_0,HK,HB⟩:=hcut
                         cases kq with
                         | zero=>exact absurd HA.out (by simp [Y0.j6])
                         | succ kj56 =>
                          have H:=HA.out
                          clear HA
                          simp only [Y0.j6] at H
                          by_cases c67:x120_56=true
                          ·subst c67
                           have H1:(Y0.l3 kj56 x0_5 a1 (wrap64 (x12_6+1)) x13_5)=some (r1,r2,r3):=by rw [if_pos rfl] at H;exact H
                           clear H
                           have H:=H1
                           clear H1
                           have H':=aM H
                           clear H
                           go_wp2
                           go_roundg kj56
                           case measure=>have:=HK1.out;have:=HJ15.out;have:=HK3.out;have:=HJ26.out;have:=HK5.out;have:=HK6.out;have:=HJ56.out;omega
                           case rel=>exact ⟨(wrap64 (x12_6+1)),(z2_),H',⟨by have:=HK1.out;have:=HJ15.out;have:=HK3.out;have:=HJ26.out;have:=HK5.out;have:=HK6.out;have:=HJ56.out;omega⟩,⟨z29_ HO_0.out⟩,⟨z10_ HK.out⟩,⟨z5_ HB.out⟩⟩
                          ·replace c67:=Bool.eq_false_iff.mpr c67
                           subst c67
                           have H1:(Y0.l4 kj56 x0_5 a1 x12_6 x13_5)=some (r1,r2,r3):=by rw [if_neg (show ¬ (false=true) by decide)] at H;exact H
                           clear H
                           have H:=H1
                           clear H1
                           have H':=aM H
                           clear H
                           go_wp2
                           go_loopg [13] kj56 (fun kq v13 w'=>∃ (x13_8:Int),v13 = .int .i64 x13_8∧Aside0 (Y0.l4 kq x0_5 a1 x12_6 x13_8=some (r1,r2,r3))∧Aside0 (kq≤kj56)∧Aside0 (Kd.R k77 77 w' w0.heap.size (fun k_=>(P0_ k_∨w.heap.size≤k_)) (.slice (some ⟨go10,0,none⟩) x0_5.length co13) x0_5)∧Aside0 (Kept w w' (fun k_=>P0_ k_))∧Aside0 (Below w0.heap.size w0 w'))
                           case atStart=>exact ⟨(x13_5),(z2_),H',⟨Nat.le_refl _⟩,⟨z29_ HO_0.out⟩,⟨z10_ HK.out⟩,⟨z5_ HB.out⟩⟩
                           case round=>as_aux_lemma =>
                            clear H'
                            try clear c1
                            try clear p1
                            try clear q1
                            try clear hx1
                            try clear c2
                            try clear p2
                            try clear q2
                            try clear hx2
                            try clear c3
                            try clear c4
                            try clear p4
                            try clear q4
                            try clear hx4
                            try clear c5
                            try clear p5
                            try clear q5
                            try clear hx5
                            try clear hf5
                            try clear c6
                            try clear c6b0
                            try clear p6
                            try clear c7
                            try clear c7b0
                            try clear c8
                            try clear c8b0
                            try clear c9
                            try clear c9b0
                            try clear c10
                            try clear p10
                            try clear q10
                            try clear hx10
                            try clear hf10
                            try clear c11
                            try clear p11
                            try clear q11
                            try clear hx11
                            try clear hf11
                            try clear c14
                            try clear c15
                            try clear c17
                            try clear c17b0
                            try clear c18
                            try clear c18b0
                            try clear c19
                            try clear c19b0
                            try clear p19
                            try clear q19
                            try clear hx19
                            try clear c20
                            try clear c20b0
                            try clear p20
                            try clear q20
                            try clear hx20
                            try clear c21
                            try clear c21b0
                            try clear p21
                            try clear q21
                            try clear hx21
                            try clear c26
                            try clear c28
                            try clear c28b0
                            try clear c29
                            try clear c29b0
                            try clear c30
                            try clear c30b0
                            try clear c31
                            try clear c31b0
                            try clear c32
                            try clear c32b0
                            try clear c37
                            try clear c38
                            try clear c38b0
                            try clear c39
                            try clear c39b0
                            try clear c40
                            try clear c40b0
                            try clear c41
                            try clear c41b0
                            try clear c42
                            try clear c42b0
                            try clear c43
                            try clear p43
                            try clear q43
                            try clear hx43
                            try clear hf43
                            try clear c44
                            try clear p44
                            try clear q44
                            try clear hx44
                            try clear hf44
                            try clear c46
                            try clear c47
                            try clear c48
                            try clear c48b0
                            try clear c49
                            try clear c49b0
                            try clear c50
                            try clear c50b0
                            try clear c51
                            try clear c51b0
                            try clear c52
                            try clear p52
                            try clear q52
                            try clear hx52
                            try clear hf52
                            try clear c53
                            try clear p53
                            try clear q53
                            try clear hx53
                            try clear hf53
                            try clear c55
                            try clear c56
                            try clear c58
                            try clear c58b0
                            try clear c59
                            try clear c59b0
                            try clear c60
                            try clear c60b0
                            try clear c61
                            try clear c61b0
                            try clear c62
                            try clear c62b0
                            try clear p64
                            try clear c67
                            try clear hx10_0
                            try clear hx10_1
                            try clear hx11_0
                            try clear hx11_1
                            try clear hx192_0
                            try clear hx192_1
                            try clear hx193_0
                            try clear hx193_1
                            try clear hx196_0
                            try clear hx196_1
                            try clear hx197_0
                            try clear hx197_1
                            try clear hx199_0
                            try clear hx199_1
                            try clear hx200_0
                            try clear hx200_1
                            try clear hx202_0
                            try clear hx202_1
                            try clear hx203_0
                            try clear hx203_1
                            try clear hx206_0
                            try clear hx206_1
                            try clear hx207_0
                            try clear hx207_1
                            try clear hx210_0
                            try clear hx210_1
                            try clear hx211_0
                            try clear hx211_1
                            try clear hx43_0
                            try clear hx43_1
                            try clear hx44_0
                            try clear hx44_1
                            try clear hx52_0
                            try clear hx52_1
                            try clear hx53_0
                            try clear hx53_1
                            try clear p1
                            try clear p10
                            try clear p11
                            try clear p19
                            try clear p192
                            try clear p193
                            try clear p196
                            try clear p197
                            try clear p199
                            try clear p2
                            try clear p20
                            try clear p200
                            try clear p202
                            try clear p203
                            try clear p206
                            try clear p207
                            try clear p21
                            try clear p210
                            try clear p211
                            try clear p4
                            try clear p43
                            try clear p44
                            try clear p5
                            try clear p52
                            try clear p53
                            try clear p6
                            try clear q1
                            try clear q10
                            try clear q11
                            try clear q19
                            try clear q192
                            try clear q193
                            try clear q196
                            try clear q197
                            try clear q199
                            try clear q2
                            try clear q20
                            try clear q200
                            try clear q202
                            try clear q203
                            try clear q206
                            try clear q207
                            try clear q21
                            try clear q210
                            try clear q211
                            try clear q4
                            try clear q43
                            try clear q44
                            try clear q5
                            try clear q52
                            try clear q53
                            obtain ⟨x13_8,rfl,HA,HK8,HO_0,HK,HB⟩:=hrel
                            cases gk with
                            | zero=>exact absurd HA.out (by simp [Y0.l4])
                            | succ k8 =>
                             have H:=HA.out
                             clear HA
                             simp only [Y0.l4] at H
                             have HC68:=aM H
                             clear H
                             go_upto_region 15 with (fail)
                             go_cut [139] (fun v139 wc=>∃ (kq:Nat) (x139_67:Bool),v139 = .bool x139_67∧Aside0 (Y0.j8 kq x0_5 a1 x12_6 x13_8 x139_67=some (r1,r2,r3))∧Aside0 (kq≤k8)∧Aside0 (Kd.R k77 77 wc w0.heap.size (fun k_=>(P0_ k_∨w.heap.size≤k_)) (.slice (some ⟨go10,0,none⟩) x0_5.length co13) x0_5)∧Aside0 (Kept w wc (fun k_=>P0_ k_))∧Aside0 (Below w0.heap.size w0 wc))
                             case first=>as_aux_lemma =>
                              have H:=HC68.out
                              clear HC68
                              by_cases c69:x12_6≤x13_8
                              ·rw [if_pos c69] at H
                               have c69b0:decide (x12_6≤x13_8)=true:=dE c69
                               clear c69
                               (first | rw [c69b0] | (simp only [i64_w,i32_w];rw [c69b0]) | skip)
                               by_cases c70:0≤x13_8
                               ·rw [if_pos c70] at H
                                have c70b0:decide (0≤x13_8)=true:=dE c70
                                clear c70
                                by_cases c71:x13_8<(x0_5.length:Int)
                                ·rw [if_pos c71] at H
                                 have c71b0:decide (x13_8<(x0_5.length:Int))=true:=dE c71
                                 clear c71
                                 by_cases c72:0≤a1
                                 ·rw [if_pos c72] at H
                                  have c72b0:decide (0≤a1)=true:=dE c72
                                  clear c72
                                  by_cases c73:a1<(x0_5.length:Int)
                                  ·rw [if_pos c73] at H
                                   have c73b0:decide (a1<(x0_5.length:Int))=true:=dE c73
                                   clear c73
                                   replace H:=bS H
                                   obtain ⟨t215,A740,H⟩:=H
                                   replace H:(Y0.j8 k8 x0_5 a1 x12_6 x13_8 (!(decide (t215<0))))=some (r1,r2,r3):=H
                                   have A74:=aM A740
                                   clear A740
                                   have H':=aM H
                                   clear H
                                   try go_wp2
                                   have n0_:=aM (Kd.R_drew HO_0.out)
                                   have n1_:=aM (Kept.drew HK.out)
                                   have n2_:=aM (below_drew1 HB.out)
                                   clear HO_0
                                   clear HK
                                   clear HB
                                   have HO_0:=n0_
                                   have HK:=n1_
                                   have HB:=n2_
                                   clear n0_ n1_ n2_
                                   have p213:0≤(x13_8:Int):=dT (z0_)
                                   have q213:x13_8<(x0_5.length:Int):=dT (z0_)
                                   obtain ⟨ad213,e213,hx213_0,hx213_1⟩:=at_T77 (Kd.R_reads' HO_0.out).2.2 x13_8 p213 q213
                                   obtain rfl:(⟨go10,0,none⟩:Addr)=ad213:=(by injection e213)
                                   (first | simp only [add_plain] at hx213_0 | simp only [add_at] at hx213_0 | simp only [Addr.add,Nat.zero_add] at hx213_0 | skip)
                                   (first | simp only [add_plain] at hx213_1 | simp only [add_at] at hx213_1 | simp only [Addr.add,Nat.zero_add] at hx213_1 | skip)
                                   replace p213:=eq_true p213
                                   replace q213:=eq_true q213
                                   have p214:0≤(a1:Int):=dT (z0_)
                                   have q214:a1<(x0_5.length:Int):=dT (z0_)
                                   obtain ⟨ad214,e214,hx214_0,hx214_1⟩:=at_T77 (Kd.R_reads' HO_0.out).2.2 a1 p214 q214
                                   obtain rfl:(⟨go10,0,none⟩:Addr)=ad214:=(by injection e214)
                                   (first | simp only [add_plain] at hx214_0 | simp only [add_at] at hx214_0 | simp only [Addr.add,Nat.zero_add] at hx214_0 | skip)
                                   (first | simp only [add_plain] at hx214_1 | simp only [add_at] at hx214_1 | simp only [Addr.add,Nat.zero_add] at hx214_1 | skip)
                                   replace p214:=eq_true p214
                                   replace q214:=eq_true q214
                                   refine start_ (n:=17) (S:=fun w'=>w'.cell? ⟨go10,(x13_8).toNat*2,none⟩=some (.int .i64 ((rd_T77 x0_5 x13_8).f0))∧w'.cell? ⟨go10,(x13_8).toNat*2+1,none⟩=some (.int .i64 ((rd_T77 x0_5 x13_8).f1))∧w'.cell? ⟨go10,(a1).toNat*2,none⟩=some (.int .i64 ((rd_T77 x0_5 a1).f0))∧w'.cell? ⟨go10,(a1).toNat*2+1,none⟩=some (.int .i64 ((rd_T77 x0_5 a1).f1))) (ds:=[]) Y0.q23 (by kernel_rfl) rfl rfl ⟨hx213_0,hx213_1,hx214_0,hx214_1⟩ (fun hHeld=>?_);refine with_tabW Y0.tab15 Y0.bits15 (fun HT_ HW_=>?_)
                                   generalize wr.drew=w75 at HO_0 HK HB hx213_0 hx213_1 hx214_0 hx214_1 hHeld ⊢
                                   refine pu_ 0 123 Y0.q24 HT_.out ?_
                                   refine pu_ 1 124 Y0.q25 HT_.out ?_
                                   refine pu_ 2 125 Y0.q26 HT_.out ?_
                                   refine pu_ 3 126 Y0.q27 HT_.out ?_
                                   refine pu_ 4 127 Y0.q28 HT_.out ?_
                                   refine pu_ 5 128 Y0.q29 HT_.out ?_
                                   refine pu_ 6 129 Y0.q30 HT_.out ?_
                                   refine pu_ 7 130 Y0.q31 HT_.out ?_
                                   refine pu_ 9 132 Y0.q32 HT_.out ?_
                                   refine pu_ 10 133 Y0.q33 HT_.out ?_
                                   refine pu_ 11 134 Y0.q34 HT_.out ?_
                                   refine tk4_ 8 131 Y0.q35 HT_.out HW_.out hHeld ?_
                                   refine tk4_ 12 135 Y0.q36 HT_.out HW_.out hHeld ?_
                                   refine o1_ 13 136 Y0.q37 HT_.out (fun K hK=>?_)
                                   refine goesD_ Tryd.func78 (by kernel_rfl) rfl #[.agg #[.int .i64 ((rd_T77 x0_5 x13_8).f0),.int .i64 ((rd_T77 x0_5 x13_8).f1)],.agg #[.int .i64 ((rd_T77 x0_5 a1).f0),.int .i64 ((rd_T77 x0_5 a1).f1)]] (by rfl) rfl rfl (by rfl) (z42_) ?_
                                   with_reducible refine (Y30.calls k8 ((rd_T77 x0_5 x13_8).f0) ((rd_T77 x0_5 x13_8).f1) ((rd_T77 x0_5 a1).f0) ((rd_T77 x0_5 a1).f1) t215 _ A74.out).mono ?_
                                   rintro e w76 ⟨rfl,hb⟩
                                   have HS0_:=(hb.cell (World.block_lt_of_cell? _ _ (hHeld.1))).trans (hHeld.1)
                                   have HS1_:=(hb.cell (World.block_lt_of_cell? _ _ (hHeld.2.1))).trans (hHeld.2.1)
                                   have HS2_:=(hb.cell (World.block_lt_of_cell? _ _ (hHeld.2.2.1))).trans (hHeld.2.2.1)
                                   have HS3_:=(hb.cell (World.block_lt_of_cell? _ _ (hHeld.2.2.2))).trans (hHeld.2.2.2)
                                   refine ⟨_,rfl,?_⟩
                                   have n0_:=aM (Kd.R_below (z1_ HO_0.out) hb)
                                   have n1_:=aM (Kept.below (S:=(fun k_=>P0_ k_)) (z10_ HK.out) hb)
                                   have n2_:=aM (below_step (z5_ HB.out) hb)
                                   clear HO_0
                                   clear HK
                                   clear HB
                                   have HO_0:=n0_
                                   have HK:=n1_
                                   have HB:=n2_
                                   clear n0_ n1_ n2_
                                   (try clear hb)
                                   refine hK.out _ _ ⟨HS0_,HS1_,HS2_,HS3_⟩ (fun hHeld=>?_)
                                   clear hK K
                                   refine nm_ 136 ?_
                                   refine pu_ 14 137 Y0.q38 HT_.out ?_
                                   refine pu_ 15 138 Y0.q39 HT_.out ?_
                                   refine pu_ 16 139 Y0.q40 HT_.out ?_
                                   refine done_ (done_of HT_.out (by kernel_rfl)) ?_
                                   try go_wp2
                                   go_meet
                                   case rel=>exact ⟨_,(!(decide (t215<0))),(z2_),H',⟨by have:=HK1.out;have:=HJ15.out;have:=HK3.out;have:=HJ26.out;have:=HK5.out;have:=HK6.out;have:=HJ56.out;have:=HK8.out;first | omega | exact Nat.le_refl _⟩,⟨z29_ HO_0.out⟩,⟨z10_ HK.out⟩,⟨z5_ HB.out⟩⟩
                                  ·rw [if_neg c73] at H
                                   exact nO H
                                 ·rw [if_neg c72] at H
                                  exact nO H
                                ·rw [if_neg c71] at H
                                 exact nO H
                               ·rw [if_neg c70] at H
                                exact nO H
                              ·rw [if_neg c69] at H
                               have c69b0:decide (x12_6≤x13_8)=false:=dF c69
                               clear c69
                               (first | rw [c69b0] | (simp only [i64_w,i32_w];rw [c69b0]) | skip)
                               have H':=aM H
                               clear H
                               try go_wp2
                               have n0_:=aM (Kd.R_drew HO_0.out)
                               have n1_:=aM (Kept.drew HK.out)
                               have n2_:=aM (below_drew1 HB.out)
                               clear HO_0
                               clear HK
                               clear HB
                               have HO_0:=n0_
                               have HK:=n1_
                               have HB:=n2_
                               clear n0_ n1_ n2_
                               refine start_ (n:=17) (S:=fun w'=>True) (ds:=[]) Y0.q23 (by kernel_rfl) rfl rfl trivial (fun hHeld=>?_);refine with_tabW Y0.tab15 Y0.bits15 (fun HT_ HW_=>?_)
                               generalize wr.drew=w77 at HO_0 HK HB hHeld ⊢
                               refine pu_ 0 123 Y0.q24 HT_.out ?_
                               refine pu_ 1 124 Y0.q25 HT_.out ?_
                               refine pu_ 2 125 Y0.q26 HT_.out ?_
                               refine pu_ 3 126 Y0.q27 HT_.out ?_
                               refine pn_ 4 127 Y0.q28 HT_.out ?_
                               refine pn_ 5 128 Y0.q29 HT_.out ?_
                               refine pn_ 6 129 Y0.q30 HT_.out ?_
                               refine pn_ 7 130 Y0.q31 HT_.out ?_
                               refine pn_ 8 131 Y0.q41 HT_.out ?_
                               refine pn_ 9 132 Y0.q42 HT_.out ?_
                               refine pn_ 10 133 Y0.q43 HT_.out ?_
                               refine pn_ 11 134 Y0.q35 HT_.out ?_
                               refine pn_ 12 135 Y0.q36 HT_.out ?_
                               refine pn_ 13 136 Y0.q37 HT_.out ?_
                               refine pn_ 14 137 Y0.q38 HT_.out ?_
                               refine pn_ 15 138 Y0.q39 HT_.out ?_
                               refine pu_ 16 139 Y0.q40 HT_.out ?_
                               refine done_ (done_of HT_.out (by kernel_rfl)) ?_
                               try go_wp2
                               go_meet
                               case rel=>exact ⟨_,(false),(z2_),H',⟨by have:=HK1.out;have:=HJ15.out;have:=HK3.out;have:=HJ26.out;have:=HK5.out;have:=HK6.out;have:=HJ56.out;have:=HK8.out;first | omega | exact Nat.le_refl _⟩,⟨z29_ HO_0.out⟩,⟨z10_ HK.out⟩,⟨z5_ HB.out⟩⟩
                             case rest=>as_aux_lemma =>
                              clear HC68
                              try clear c1
                              try clear p1
                              try clear q1
                              try clear hx1
                              try clear c2
                              try clear p2
                              try clear q2
                              try clear hx2
                              try clear c3
                              try clear c4
                              try clear p4
                              try clear q4
                              try clear hx4
                              try clear c5
                              try clear p5
                              try clear q5
                              try clear hx5
                              try clear hf5
                              try clear c6
                              try clear c6b0
                              try clear p6
                              try clear c7
                              try clear c7b0
                              try clear c8
                              try clear c8b0
                              try clear c9
                              try clear c9b0
                              try clear c10
                              try clear p10
                              try clear q10
                              try clear hx10
                              try clear hf10
                              try clear c11
                              try clear p11
                              try clear q11
                              try clear hx11
                              try clear hf11
                              try clear c14
                              try clear c15
                              try clear c17
                              try clear c17b0
                              try clear c18
                              try clear c18b0
                              try clear c19
                              try clear c19b0
                              try clear p19
                              try clear q19
                              try clear hx19
                              try clear c20
                              try clear c20b0
                              try clear p20
                              try clear q20
                              try clear hx20
                              try clear c21
                              try clear c21b0
                              try clear p21
                              try clear q21
                              try clear hx21
                              try clear c26
                              try clear c28
                              try clear c28b0
                              try clear c29
                              try clear c29b0
                              try clear c30
                              try clear c30b0
                              try clear c31
                              try clear c31b0
                              try clear c32
                              try clear c32b0
                              try clear c37
                              try clear c38
                              try clear c38b0
                              try clear c39
                              try clear c39b0
                              try clear c40
                              try clear c40b0
                              try clear c41
                              try clear c41b0
                              try clear c42
                              try clear c42b0
                              try clear c43
                              try clear p43
                              try clear q43
                              try clear hx43
                              try clear hf43
                              try clear c44
                              try clear p44
                              try clear q44
                              try clear hx44
                              try clear hf44
                              try clear c46
                              try clear c47
                              try clear c48
                              try clear c48b0
                              try clear c49
                              try clear c49b0
                              try clear c50
                              try clear c50b0
                              try clear c51
                              try clear c51b0
                              try clear c52
                              try clear p52
                              try clear q52
                              try clear hx52
                              try clear hf52
                              try clear c53
                              try clear p53
                              try clear q53
                              try clear hx53
                              try clear hf53
                              try clear c55
                              try clear c56
                              try clear c58
                              try clear c58b0
                              try clear c59
                              try clear c59b0
                              try clear c60
                              try clear c60b0
                              try clear c61
                              try clear c61b0
                              try clear c62
                              try clear c62b0
                              try clear p64
                              try clear c67
                              try clear c69
                              try clear c69b0
                              try clear c70
                              try clear c70b0
                              try clear c71
                              try clear c71b0
                              try clear c72
                              try clear c72b0
                              try clear c73
                              try clear c73b0
                              try clear hx10_0
                              try clear hx10_1
                              try clear hx11_0
                              try clear hx11_1
                              try clear hx192_0
                              try clear hx192_1
                              try clear hx193_0
                              try clear hx193_1
                              try clear hx196_0
                              try clear hx196_1
                              try clear hx197_0
                              try clear hx197_1
                              try clear hx199_0
                              try clear hx199_1
                              try clear hx200_0
                              try clear hx200_1
                              try clear hx202_0
                              try clear hx202_1
                              try clear hx203_0
                              try clear hx203_1
                              try clear hx206_0
                              try clear hx206_1
                              try clear hx207_0
                              try clear hx207_1
                              try clear hx210_0
                              try clear hx210_1
                              try clear hx211_0
                              try clear hx211_1
                              try clear hx213_0
                              try clear hx213_1
                              try clear hx214_0
                              try clear hx214_1
                              try clear hx43_0
                              try clear hx43_1
                              try clear hx44_0
                              try clear hx44_1
                              try clear hx52_0
                              try clear hx52_1
                              try clear hx53_0
                              try clear hx53_1
                              try clear p1
                              try clear p10
                              try clear p11
                              try clear p19
                              try clear p192
                              try clear p193
                              try clear p196
                              try clear p197
                              try clear p199
                              try clear p2
                              try clear p20
                              try clear p200
                              try clear p202
                              try clear p203
                              try clear p206
                              try clear p207
                              try clear p21
                              try clear p210
                              try clear p211
                              try clear p213
                              try clear p214
                              try clear p4
                              try clear p43
                              try clear p44
                              try clear p5
                              try clear p52
                              try clear p53
                              try clear p6
                              try clear p64
                              try clear q1
                              try clear q10
                              try clear q11
                              try clear q19
                              try clear q192
                              try clear q193
                              try clear q196
                              try clear q197
                              try clear q199
                              try clear q2
                              try clear q20
                              try clear q200
                              try clear q202
                              try clear q203
                              try clear q206
                              try clear q207
                              try clear q21
                              try clear q210
                              try clear q211
                              try clear q213
                              try clear q214
                              try clear q4
                              try clear q43
                              try clear q44
                              try clear q5
                              try clear q52
                              try clear q53
                              obtain ⟨kq,x139_67,rfl,HA,HJ67,HO_0,HK,HB⟩:=hcut
                              cases kq with
                              | zero=>exact absurd HA.out (by simp [Y0.j8])
                              | succ kj67 =>
                               have H:=HA.out
                               clear HA
                               simp only [Y0.j8] at H
                               by_cases c78:x139_67=true
                               ·subst c78
                                have H1:(Y0.l4 kj67 x0_5 a1 x12_6 (wrap64 (x13_8-1)))=some (r1,r2,r3):=by rw [if_pos rfl] at H;exact H
                                clear H
                                have H:=H1
                                clear H1
                                have H':=aM H
                                clear H
                                go_wp2
                                go_roundg kj67
                                case measure=>have:=HK1.out;have:=HJ15.out;have:=HK3.out;have:=HJ26.out;have:=HK5.out;have:=HK6.out;have:=HJ56.out;have:=HK8.out;have:=HJ67.out;omega
                                case rel=>exact ⟨(wrap64 (x13_8-1)),(z2_),H',⟨by have:=HK1.out;have:=HJ15.out;have:=HK3.out;have:=HJ26.out;have:=HK5.out;have:=HK6.out;have:=HJ56.out;have:=HK8.out;have:=HJ67.out;omega⟩,⟨z29_ HO_0.out⟩,⟨z10_ HK.out⟩,⟨z5_ HB.out⟩⟩
                               ·replace c78:=Bool.eq_false_iff.mpr c78
                                subst c78
                                have H1:(if x12_6>x13_8 then (if 0≤a1 then (if a1<(x0_5.length:Int) then (if 0≤x13_8 then (if x13_8<(x0_5.length:Int) then (some (x13_8,false,((x0_5.set (x13_8:Int).toNat (⟨(rd_T77 x0_5 a1).f0,(rd_T77 x0_5 a1).f1⟩:S77)).set (a1:Int).toNat (⟨(rd_T77 x0_5 x13_8).f0,(rd_T77 x0_5 x13_8).f1⟩:S77)))) else (none)) else (none)) else (none)) else (none)) else (if 0≤x13_8 then (if x13_8<(x0_5.length:Int) then (if 0≤x12_6 then (if x12_6<(x0_5.length:Int) then (Y0.l2 kj67 ((x0_5.set (x12_6:Int).toNat (⟨(rd_T77 x0_5 x13_8).f0,(rd_T77 x0_5 x13_8).f1⟩:S77)).set (x13_8:Int).toNat (⟨(rd_T77 x0_5 x12_6).f0,(rd_T77 x0_5 x12_6).f1⟩:S77)) a1 (wrap64 (x12_6+1)) (wrap64 (x13_8-1))) else (none)) else (none)) else (none)) else (none)))=some (r1,r2,r3):=by rw [if_neg (show ¬ (false=true) by decide)] at H;exact H
                                clear H
                                have H:=H1
                                clear H1
                                by_cases c79:x12_6>x13_8
                                ·rw [if_pos c79] at H
                                 have c79b0:decide (x13_8<x12_6)=true:=dE c79
                                 clear c79
                                 by_cases c80:0≤a1
                                 ·rw [if_pos c80] at H
                                  have c80b0:decide (0≤a1)=true:=dE c80
                                  clear c80
                                  by_cases c81:a1<(x0_5.length:Int)
                                  ·rw [if_pos c81] at H
                                   have c81b0:decide (a1<(x0_5.length:Int))=true:=dE c81
                                   clear c81
                                   by_cases c82:0≤x13_8
                                   ·rw [if_pos c82] at H
                                    have c82b0:decide (0≤x13_8)=true:=dE c82
                                    clear c82
                                    by_cases c83:x13_8<(x0_5.length:Int)
                                    ·rw [if_pos c83] at H
                                     have c83b0:decide (x13_8<(x0_5.length:Int))=true:=dE c83
                                     clear c83
                                     obtain ⟨y218,hy218⟩:∃ y_:List (S77),y_=(x0_5.set (x13_8:Int).toNat (⟨(rd_T77 x0_5 a1).f0,(rd_T77 x0_5 a1).f1⟩:S77)):=⟨_,rfl⟩
                                     replace H:(some (x13_8,false,(y218.set (a1:Int).toNat (⟨(rd_T77 x0_5 x13_8).f0,(rd_T77 x0_5 x13_8).f1⟩:S77))))=some (r1,r2,r3):=by first | (rw [hy218];with_reducible exact H) | (have H2_:=(Option.bind_some _ _).symm.trans H;rw [hy218];with_reducible exact H2_) | (have H2_:=(Option.bind_some _ _).symm.trans H;with_reducible exact H2_) | with_reducible exact H | (rw [hy218];exact H) | exact H
                                     have Ny218:=aM hy218
                                     clear hy218
                                     obtain ⟨y219,hy219⟩:∃ y_:List (S77),y_=(y218.set (a1:Int).toNat (⟨(rd_T77 x0_5 x13_8).f0,(rd_T77 x0_5 x13_8).f1⟩:S77)):=⟨_,rfl⟩
                                     replace H:(some (x13_8,false,y219))=some (r1,r2,r3):=by first | (rw [hy219];with_reducible exact H) | (have H2_:=(Option.bind_some _ _).symm.trans H;rw [hy219];with_reducible exact H2_) | (have H2_:=(Option.bind_some _ _).symm.trans H;with_reducible exact H2_) | with_reducible exact H | (rw [hy219];exact H) | exact H
                                     have Ny219:=aM hy219
                                     clear hy219
                                     simp only [Option.some.injEq,Prod.mk.injEq] at H
                                     obtain ⟨rfl,rfl,rfl⟩:=H
                                     try go_wp2
                                     have n0_:=aM (Kd.R_drew HO_0.out)
                                     have n1_:=aM (Kept.drew HK.out)
                                     have n2_:=aM (below_drew1 HB.out)
                                     clear HO_0
                                     clear HK
                                     clear HB
                                     have HO_0:=n0_
                                     have HK:=n1_
                                     have HB:=n2_
                                     clear n0_ n1_ n2_
                                     have p216:0≤(a1:Int):=dT (z0_)
                                     have q216:a1<(x0_5.length:Int):=dT (z0_)
                                     obtain ⟨ad216,e216,hx216_0,hx216_1⟩:=at_T77 (Kd.R_reads' HO_0.out).2.2 a1 p216 q216
                                     obtain rfl:(⟨go10,0,none⟩:Addr)=ad216:=(by injection e216)
                                     (first | simp only [add_plain] at hx216_0 | simp only [add_at] at hx216_0 | simp only [Addr.add,Nat.zero_add] at hx216_0 | skip)
                                     (first | simp only [add_plain] at hx216_1 | simp only [add_at] at hx216_1 | simp only [Addr.add,Nat.zero_add] at hx216_1 | skip)
                                     replace p216:=eq_true p216
                                     replace q216:=eq_true q216
                                     have p217:0≤(x13_8:Int):=dT (z0_)
                                     have q217:x13_8<(x0_5.length:Int):=dT (z0_)
                                     obtain ⟨ad217,e217,hx217_0,hx217_1⟩:=at_T77 (Kd.R_reads' HO_0.out).2.2 x13_8 p217 q217
                                     obtain rfl:(⟨go10,0,none⟩:Addr)=ad217:=(by injection e217)
                                     (first | simp only [add_plain] at hx217_0 | simp only [add_at] at hx217_0 | simp only [Addr.add,Nat.zero_add] at hx217_0 | skip)
                                     (first | simp only [add_plain] at hx217_1 | simp only [add_at] at hx217_1 | simp only [Addr.add,Nat.zero_add] at hx217_1 | skip)
                                     replace p217:=eq_true p217
                                     replace q217:=eq_true q217
                                     have p84:0≤(x13_8:Int):=dT (z0_)
                                     have q84:(x13_8:Int)<((x0_5.length:Int):Int):=dT (z0_)
                                     obtain ⟨ce84,hcl84,hM84,hcc84,hfr84⟩:=Kd.R_elem HO_0.out z77 (x13_8:Int) p84 q84
                                     obtain rfl:=k77_openM hM84
                                     have hx84_0:World.cell? _ ⟨go10,(x13_8:Int).toNat*2,none⟩=some (.int .i64 ((rd_T77 x0_5 x13_8).f0)):=hcc84 0 _ rfl
                                     have hx84_1:World.cell? _ ⟨go10,(x13_8:Int).toNat*2+1,none⟩=some (.int .i64 ((rd_T77 x0_5 x13_8).f1)):=hcc84 1 _ rfl
                                     have hf84_0:World.frozen? _ ⟨go10,(x13_8:Int).toNat*2,none⟩=false:=hfr84 0
                                     have hf84_1:World.frozen? _ ⟨go10,(x13_8:Int).toNat*2+1,none⟩=false:=hfr84 1
                                     clear hcl84 hcc84 hfr84 hM84
                                     replace p84:=eq_true p84
                                     replace q84:=eq_true q84
                                     obtain ⟨ce87,hcl87,hM87,hcc87,hfr87⟩:=Kd.R_elem HO_0.out z77 (x13_8:Int) (dT (z0_)) (z49_ HO_0.out)
                                     obtain rfl:=k77_openM hM87
                                     have HP87:=(Kd.R_seg HO_0.out (x13_8:Int) (dT (z0_)) (z49_ HO_0.out) (seg:=[.int .i64 ((rd_T77 x0_5 a1).f0),.int .i64 ((rd_T77 x0_5 a1).f1)]) (j:=0) hcl87 hcc87 (show 2≤2 from by decide) (x':=(⟨(rd_T77 x0_5 a1).f0,(rd_T77 x0_5 a1).f1⟩:S77)) (k77_mkM _ _ _ (⟨(rd_T77 x0_5 a1).f0,(rd_T77 x0_5 a1).f1⟩:S77) ) (fun _ hk=>hk)).1
                                     rw [← Ny218.out] at HP87
                                     have HQ87:=aM HP87
                                     clear hcl87 hcc87 hfr87 hM87 HP87
                                     have p85:0≤(a1:Int):=dT (z0_)
                                     have q85:(a1:Int)<((x0_5.length:Int):Int):=dT (z0_)
                                     obtain ⟨ce85,hcl85,hM85,hcc85,hfr85⟩:=Kd.R_elem HQ87.out z77 (a1:Int) p85 q85
                                     obtain rfl:=k77_openM hM85
                                     have hx85_0:World.cell? _ ⟨go10,(a1:Int).toNat*2,none⟩=some (.int .i64 ((rd_T77 y218 a1).f0)):=hcc85 0 _ rfl
                                     have hx85_1:World.cell? _ ⟨go10,(a1:Int).toNat*2+1,none⟩=some (.int .i64 ((rd_T77 y218 a1).f1)):=hcc85 1 _ rfl
                                     have hf85_0:World.frozen? _ ⟨go10,(a1:Int).toNat*2,none⟩=false:=hfr85 0
                                     have hf85_1:World.frozen? _ ⟨go10,(a1:Int).toNat*2+1,none⟩=false:=hfr85 1
                                     clear hcl85 hcc85 hfr85 hM85
                                     replace p85:=eq_true p85
                                     replace q85:=eq_true q85
                                     obtain ⟨ce88,hcl88,hM88,hcc88,hfr88⟩:=Kd.R_elem HQ87.out z77 (a1:Int) (dT (z0_)) (by have h_:(a1:Int)<((x0_5.length:Int):Int):=dT (by first | (with_reducible assumption) | assumption);first | exact h_ | (have e_:=(Kd.R_reads' HO_0.out).1;omega) | simpa using h_)
                                     obtain rfl:=k77_openM hM88
                                     have HP88:=(Kd.R_seg HQ87.out (a1:Int) (dT (z0_)) (by have h_:(a1:Int)<((x0_5.length:Int):Int):=dT (by first | (with_reducible assumption) | assumption);first | exact h_ | (have e_:=(Kd.R_reads' HO_0.out).1;omega) | simpa using h_) (seg:=[.int .i64 ((rd_T77 x0_5 x13_8).f0),.int .i64 ((rd_T77 x0_5 x13_8).f1)]) (j:=0) hcl88 hcc88 (show 2≤2 from by decide) (x':=(⟨(rd_T77 x0_5 x13_8).f0,(rd_T77 x0_5 x13_8).f1⟩:S77)) (k77_mkM _ _ _ (⟨(rd_T77 x0_5 x13_8).f0,(rd_T77 x0_5 x13_8).f1⟩:S77) ) (fun _ hk=>hk)).1
                                     rw [← Ny219.out] at HP88
                                     have HQ88:=aM HP88
                                     clear hcl88 hcc88 hfr88 hM88 HP88
                                     refine start_ (n:=16) (S:=fun w'=>w'.cell? ⟨go10,(a1).toNat*2,none⟩=some (.int .i64 ((rd_T77 x0_5 a1).f0))∧w'.cell? ⟨go10,(a1).toNat*2+1,none⟩=some (.int .i64 ((rd_T77 x0_5 a1).f1))∧w'.cell? ⟨go10,(x13_8).toNat*2,none⟩=some (.int .i64 ((rd_T77 x0_5 x13_8).f0))∧w'.cell? ⟨go10,(x13_8).toNat*2+1,none⟩=some (.int .i64 ((rd_T77 x0_5 x13_8).f1))) (ds:=[13,15]) Y0.q0 (by kernel_rfl) rfl rfl ⟨hx216_0,hx216_1,hx217_0,hx217_1⟩ (fun hHeld=>?_);refine with_tabW Y0.tab21 Y0.bits21 (fun HT_ HW_=>?_)
                                     generalize wc.drew=w86 at HO_0 HK HB HQ87 HQ88 hf84_0 hf84_1 hf85_0 hf85_1 hx216_0 hx216_1 hx217_0 hx217_1 hx84_0 hx84_1 hx85_0 hx85_1 hHeld ⊢
                                     have hz85_0:(w86.setCell ⟨go10,(x13_8:Int).toNat*2,none⟩ (.int .i64 ((rd_T77 x0_5 a1).f0))).cell? ⟨go10,(a1:Int).toNat*2,none⟩=some (.int .i64 ((rd_T77 y218 a1).f0)):=by have h_:=hx85_0;exact ((show ((w86.setCell ⟨go10,(x13_8:Int).toNat*2,none⟩ (.int .i64 ((rd_T77 x0_5 a1).f0))).setCell ⟨go10,(x13_8:Int).toNat*2+1,none⟩ (.int .i64 ((rd_T77 x0_5 a1).f1))).cell? ⟨go10,(a1:Int).toNat*2,none⟩=(w86.setCell ⟨go10,(x13_8:Int).toNat*2,none⟩ (.int .i64 ((rd_T77 x0_5 a1).f0))).cell? ⟨go10,(a1:Int).toNat*2,none⟩ from World.cell?_setCell_other _ _ _ _ (by intro e_;injection e_ with e1_ e2_;omega)).symm.trans h_)
                                     have hy85_0:w86.frozen? ⟨go10,(a1:Int).toNat*2,none⟩=false:=by have h_:=hf85_0;first | exact h_ | simpa only [World.frozen?_setCell] using h_ | simpa [World.setCells] using h_
                                     have hz85_1:((w86.setCell ⟨go10,(x13_8:Int).toNat*2,none⟩ (.int .i64 ((rd_T77 x0_5 a1).f0))).setCell ⟨go10,(x13_8:Int).toNat*2+1,none⟩ (.int .i64 ((rd_T77 x0_5 a1).f1))).cell? ⟨go10,(a1:Int).toNat*2+1,none⟩=some (.int .i64 ((rd_T77 y218 a1).f1)):=by have h_:=hx85_1;exact h_
                                     have hy85_1:w86.frozen? ⟨go10,(a1:Int).toNat*2+1,none⟩=false:=by have h_:=hf85_1;first | exact h_ | simpa only [World.frozen?_setCell] using h_ | simpa [World.setCells] using h_
                                     refine pu_ 0 163 Y0.q1 HT_.out ?_
                                     refine pu_ 1 164 Y0.q2 HT_.out ?_
                                     refine pu_ 2 165 Y0.q3 HT_.out ?_
                                     refine pu_ 3 166 Y0.q4 HT_.out ?_
                                     refine pu_ 4 167 Y0.q5 HT_.out ?_
                                     refine pu_ 5 168 Y0.q6 HT_.out ?_
                                     refine pu_ 6 169 Y0.q7 HT_.out ?_
                                     refine pu_ 8 171 Y0.q8 HT_.out ?_
                                     refine pu_ 9 172 Y0.q9 HT_.out ?_
                                     refine pu_ 10 173 Y0.q10 HT_.out ?_
                                     refine tk4_ 7 170 Y0.q11 HT_.out HW_.out hHeld ?_
                                     refine tk4_ 11 174 Y0.q12 HT_.out HW_.out hHeld ?_
                                     refine pu_ 12 175 Y0.q13 HT_.out ?_
                                     refine last_ (i:=13) (N:=none) Y0.q14 rfl rfl (one_of HT_.out (by kernel_rfl)) (by decide) (fun K hK=>?_)
                                     refine skip_ (w1:=?_) (by rfl) rfl ?_ ?_
                                     rotate_left
                                     ·go_simp
                                      rfl
                                     refine hK.out _ _ ?_
                                     clear hK K
                                     refine pu_ 14 176 Y0.q15 HT_.out ?_
                                     refine last_ (i:=15) (N:=none) Y0.q16 rfl rfl (one_of HT_.out (by kernel_rfl)) (by decide) (fun K hK=>?_)
                                     refine skip_ (w1:=?_) (by rfl) rfl ?_ ?_
                                     rotate_left
                                     ·go_simp
                                      rfl
                                     refine hK.out _ _ ?_
                                     clear hK K
                                     refine done_ (done_of HT_.out (by kernel_rfl)) ?_
                                     try go_wp2
                                     go_ret2
                                     exact ⟨z9_,(by first | exact (by (with_reducible repeat (first | apply Kd.R_alloc | apply Kd.R_drewN | apply Kd.R_drew));exact HQ88.out) | (simp only [hl0_1,hl0_5];exact (by (with_reducible repeat (first | apply Kd.R_alloc | apply Kd.R_drewN | apply Kd.R_drew));exact HQ88.out))),z41_ HB.out GB10.out,z40_ HK.out HMgo10.out⟩
                                    ·rw [if_neg c83] at H
                                     exact nO H
                                   ·rw [if_neg c82] at H
                                    exact nO H
                                  ·rw [if_neg c81] at H
                                   exact nO H
                                 ·rw [if_neg c80] at H
                                  exact nO H
                                ·rw [if_neg c79] at H
                                 have c79b0:decide (x13_8<x12_6)=false:=dF c79
                                 clear c79
                                 by_cases c89:0≤x13_8
                                 ·rw [if_pos c89] at H
                                  have c89b0:decide (0≤x13_8)=true:=dE c89
                                  clear c89
                                  by_cases c90:x13_8<(x0_5.length:Int)
                                  ·rw [if_pos c90] at H
                                   have c90b0:decide (x13_8<(x0_5.length:Int))=true:=dE c90
                                   clear c90
                                   by_cases c91:0≤x12_6
                                   ·rw [if_pos c91] at H
                                    have c91b0:decide (0≤x12_6)=true:=dE c91
                                    clear c91
                                    by_cases c92:x12_6<(x0_5.length:Int)
                                    ·rw [if_pos c92] at H
                                     have c92b0:decide (x12_6<(x0_5.length:Int))=true:=dE c92
                                     clear c92
                                     obtain ⟨y222,hy222⟩:∃ y_:List (S77),y_=(x0_5.set (x12_6:Int).toNat (⟨(rd_T77 x0_5 x13_8).f0,(rd_T77 x0_5 x13_8).f1⟩:S77)):=⟨_,rfl⟩
                                     replace H:(Y0.l2 kj67 (y222.set (x13_8:Int).toNat (⟨(rd_T77 x0_5 x12_6).f0,(rd_T77 x0_5 x12_6).f1⟩:S77)) a1 (wrap64 (x12_6+1)) (wrap64 (x13_8-1)))=some (r1,r2,r3):=by first | (rw [hy222];with_reducible exact H) | (have H2_:=(Option.bind_some _ _).symm.trans H;rw [hy222];with_reducible exact H2_) | (have H2_:=(Option.bind_some _ _).symm.trans H;with_reducible exact H2_) | with_reducible exact H | (rw [hy222];exact H) | exact H
                                     have Ny222:=aM hy222
                                     clear hy222
                                     obtain ⟨y223,hy223⟩:∃ y_:List (S77),y_=(y222.set (x13_8:Int).toNat (⟨(rd_T77 x0_5 x12_6).f0,(rd_T77 x0_5 x12_6).f1⟩:S77)):=⟨_,rfl⟩
                                     replace H:(Y0.l2 kj67 y223 a1 (wrap64 (x12_6+1)) (wrap64 (x13_8-1)))=some (r1,r2,r3):=by first | (rw [hy223];with_reducible exact H) | (have H2_:=(Option.bind_some _ _).symm.trans H;rw [hy223];with_reducible exact H2_) | (have H2_:=(Option.bind_some _ _).symm.trans H;with_reducible exact H2_) | with_reducible exact H | (rw [hy223];exact H) | exact H
                                     have Ny223:=aM hy223
                                     clear hy223
                                     have H':=aM H
                                     clear H
                                     try go_wp2
                                     have n0_:=aM (Kd.R_drew HO_0.out)
                                     have n1_:=aM (Kept.drew HK.out)
                                     have n2_:=aM (below_drew1 HB.out)
                                     clear HO_0
                                     clear HK
                                     clear HB
                                     have HO_0:=n0_
                                     have HK:=n1_
                                     have HB:=n2_
                                     clear n0_ n1_ n2_
                                     have p220:0≤(x13_8:Int):=dT (z0_)
                                     have q220:x13_8<(x0_5.length:Int):=dT (z0_)
                                     obtain ⟨ad220,e220,hx220_0,hx220_1⟩:=at_T77 (Kd.R_reads' HO_0.out).2.2 x13_8 p220 q220
                                     obtain rfl:(⟨go10,0,none⟩:Addr)=ad220:=(by injection e220)
                                     (first | simp only [add_plain] at hx220_0 | simp only [add_at] at hx220_0 | simp only [Addr.add,Nat.zero_add] at hx220_0 | skip)
                                     (first | simp only [add_plain] at hx220_1 | simp only [add_at] at hx220_1 | simp only [Addr.add,Nat.zero_add] at hx220_1 | skip)
                                     replace p220:=eq_true p220
                                     replace q220:=eq_true q220
                                     have p221:0≤(x12_6:Int):=dT (z0_)
                                     have q221:x12_6<(x0_5.length:Int):=dT (z0_)
                                     obtain ⟨ad221,e221,hx221_0,hx221_1⟩:=at_T77 (Kd.R_reads' HO_0.out).2.2 x12_6 p221 q221
                                     obtain rfl:(⟨go10,0,none⟩:Addr)=ad221:=(by injection e221)
                                     (first | simp only [add_plain] at hx221_0 | simp only [add_at] at hx221_0 | simp only [Addr.add,Nat.zero_add] at hx221_0 | skip)
                                     (first | simp only [add_plain] at hx221_1 | simp only [add_at] at hx221_1 | simp only [Addr.add,Nat.zero_add] at hx221_1 | skip)
                                     replace p221:=eq_true p221
                                     replace q221:=eq_true q221
                                     have p93:0≤(x12_6:Int):=dT (z0_)
                                     have q93:(x12_6:Int)<((x0_5.length:Int):Int):=dT (z0_)
                                     obtain ⟨ce93,hcl93,hM93,hcc93,hfr93⟩:=Kd.R_elem HO_0.out z77 (x12_6:Int) p93 q93
                                     obtain rfl:=k77_openM hM93
                                     have hx93_0:World.cell? _ ⟨go10,(x12_6:Int).toNat*2,none⟩=some (.int .i64 ((rd_T77 x0_5 x12_6).f0)):=hcc93 0 _ rfl
                                     have hx93_1:World.cell? _ ⟨go10,(x12_6:Int).toNat*2+1,none⟩=some (.int .i64 ((rd_T77 x0_5 x12_6).f1)):=hcc93 1 _ rfl
                                     have hf93_0:World.frozen? _ ⟨go10,(x12_6:Int).toNat*2,none⟩=false:=hfr93 0
                                     have hf93_1:World.frozen? _ ⟨go10,(x12_6:Int).toNat*2+1,none⟩=false:=hfr93 1
                                     clear hcl93 hcc93 hfr93 hM93
                                     replace p93:=eq_true p93
                                     replace q93:=eq_true q93
                                     obtain ⟨ce96,hcl96,hM96,hcc96,hfr96⟩:=Kd.R_elem HO_0.out z77 (x12_6:Int) (dT (z0_)) (by have h_:(x12_6:Int)<((x0_5.length:Int):Int):=dT (by first | (with_reducible assumption) | assumption);first | exact h_ | (have e_:=(Kd.R_reads' HO_0.out).1;omega) | simpa using h_)
                                     obtain rfl:=k77_openM hM96
                                     have HP96:=(Kd.R_seg HO_0.out (x12_6:Int) (dT (z0_)) (by have h_:(x12_6:Int)<((x0_5.length:Int):Int):=dT (by first | (with_reducible assumption) | assumption);first | exact h_ | (have e_:=(Kd.R_reads' HO_0.out).1;omega) | simpa using h_) (seg:=[.int .i64 ((rd_T77 x0_5 x13_8).f0),.int .i64 ((rd_T77 x0_5 x13_8).f1)]) (j:=0) hcl96 hcc96 (show 2≤2 from by decide) (x':=(⟨(rd_T77 x0_5 x13_8).f0,(rd_T77 x0_5 x13_8).f1⟩:S77)) (k77_mkM _ _ _ (⟨(rd_T77 x0_5 x13_8).f0,(rd_T77 x0_5 x13_8).f1⟩:S77) ) (fun _ hk=>hk)).1
                                     rw [← Ny222.out] at HP96
                                     have HQ96:=aM HP96
                                     clear hcl96 hcc96 hfr96 hM96 HP96
                                     have p94:0≤(x13_8:Int):=dT (z0_)
                                     have q94:(x13_8:Int)<((x0_5.length:Int):Int):=dT (z0_)
                                     obtain ⟨ce94,hcl94,hM94,hcc94,hfr94⟩:=Kd.R_elem HQ96.out z77 (x13_8:Int) p94 q94
                                     obtain rfl:=k77_openM hM94
                                     have hx94_0:World.cell? _ ⟨go10,(x13_8:Int).toNat*2,none⟩=some (.int .i64 ((rd_T77 y222 x13_8).f0)):=hcc94 0 _ rfl
                                     have hx94_1:World.cell? _ ⟨go10,(x13_8:Int).toNat*2+1,none⟩=some (.int .i64 ((rd_T77 y222 x13_8).f1)):=hcc94 1 _ rfl
                                     have hf94_0:World.frozen? _ ⟨go10,(x13_8:Int).toNat*2,none⟩=false:=hfr94 0
                                     have hf94_1:World.frozen? _ ⟨go10,(x13_8:Int).toNat*2+1,none⟩=false:=hfr94 1
                                     clear hcl94 hcc94 hfr94 hM94
                                     replace p94:=eq_true p94
                                     replace q94:=eq_true q94
                                     obtain ⟨ce97,hcl97,hM97,hcc97,hfr97⟩:=Kd.R_elem HQ96.out z77 (x13_8:Int) (dT (z0_)) (z49_ HO_0.out)
                                     obtain rfl:=k77_openM hM97
                                     have HP97:=(Kd.R_seg HQ96.out (x13_8:Int) (dT (z0_)) (z49_ HO_0.out) (seg:=[.int .i64 ((rd_T77 x0_5 x12_6).f0),.int .i64 ((rd_T77 x0_5 x12_6).f1)]) (j:=0) hcl97 hcc97 (show 2≤2 from by decide) (x':=(⟨(rd_T77 x0_5 x12_6).f0,(rd_T77 x0_5 x12_6).f1⟩:S77)) (k77_mkM _ _ _ (⟨(rd_T77 x0_5 x12_6).f0,(rd_T77 x0_5 x12_6).f1⟩:S77) ) (fun _ hk=>hk)).1
                                     rw [← Ny223.out] at HP97
                                     have HQ97:=aM HP97
                                     clear hcl97 hcc97 hfr97 hM97 HP97
                                     refine start_ (n:=16) (S:=fun w'=>w'.cell? ⟨go10,(x13_8).toNat*2,none⟩=some (.int .i64 ((rd_T77 x0_5 x13_8).f0))∧w'.cell? ⟨go10,(x13_8).toNat*2+1,none⟩=some (.int .i64 ((rd_T77 x0_5 x13_8).f1))∧w'.cell? ⟨go10,(x12_6).toNat*2,none⟩=some (.int .i64 ((rd_T77 x0_5 x12_6).f0))∧w'.cell? ⟨go10,(x12_6).toNat*2+1,none⟩=some (.int .i64 ((rd_T77 x0_5 x12_6).f1))) (ds:=[13,15]) Y0.q0 (by kernel_rfl) rfl rfl ⟨hx220_0,hx220_1,hx221_0,hx221_1⟩ (fun hHeld=>?_);refine with_tabW Y0.tab18 Y0.bits18 (fun HT_ HW_=>?_)
                                     generalize wc.drew=w95 at HO_0 HK HB HQ96 HQ97 hf93_0 hf93_1 hf94_0 hf94_1 hx220_0 hx220_1 hx221_0 hx221_1 hx93_0 hx93_1 hx94_0 hx94_1 hHeld ⊢
                                     have hz94_0:(w95.setCell ⟨go10,(x12_6:Int).toNat*2,none⟩ (.int .i64 ((rd_T77 x0_5 x13_8).f0))).cell? ⟨go10,(x13_8:Int).toNat*2,none⟩=some (.int .i64 ((rd_T77 y222 x13_8).f0)):=by have h_:=hx94_0;exact ((show ((w95.setCell ⟨go10,(x12_6:Int).toNat*2,none⟩ (.int .i64 ((rd_T77 x0_5 x13_8).f0))).setCell ⟨go10,(x12_6:Int).toNat*2+1,none⟩ (.int .i64 ((rd_T77 x0_5 x13_8).f1))).cell? ⟨go10,(x13_8:Int).toNat*2,none⟩=(w95.setCell ⟨go10,(x12_6:Int).toNat*2,none⟩ (.int .i64 ((rd_T77 x0_5 x13_8).f0))).cell? ⟨go10,(x13_8:Int).toNat*2,none⟩ from World.cell?_setCell_other _ _ _ _ (by intro e_;injection e_ with e1_ e2_;omega)).symm.trans h_)
                                     have hy94_0:w95.frozen? ⟨go10,(x13_8:Int).toNat*2,none⟩=false:=by have h_:=hf94_0;first | exact h_ | simpa only [World.frozen?_setCell] using h_ | simpa [World.setCells] using h_
                                     have hz94_1:((w95.setCell ⟨go10,(x12_6:Int).toNat*2,none⟩ (.int .i64 ((rd_T77 x0_5 x13_8).f0))).setCell ⟨go10,(x12_6:Int).toNat*2+1,none⟩ (.int .i64 ((rd_T77 x0_5 x13_8).f1))).cell? ⟨go10,(x13_8:Int).toNat*2+1,none⟩=some (.int .i64 ((rd_T77 y222 x13_8).f1)):=by have h_:=hx94_1;exact h_
                                     have hy94_1:w95.frozen? ⟨go10,(x13_8:Int).toNat*2+1,none⟩=false:=by have h_:=hf94_1;first | exact h_ | simpa only [World.frozen?_setCell] using h_ | simpa [World.setCells] using h_
                                     refine pu_ 0 145 Y0.q1 HT_.out ?_
                                     refine pu_ 1 146 Y0.q2 HT_.out ?_
                                     refine pu_ 2 147 Y0.q3 HT_.out ?_
                                     refine pu_ 3 148 Y0.q4 HT_.out ?_
                                     refine pu_ 4 149 Y0.q5 HT_.out ?_
                                     refine pu_ 5 150 Y0.q6 HT_.out ?_
                                     refine pu_ 6 151 Y0.q7 HT_.out ?_
                                     refine pu_ 8 153 Y0.q8 HT_.out ?_
                                     refine pu_ 9 154 Y0.q9 HT_.out ?_
                                     refine pu_ 10 155 Y0.q10 HT_.out ?_
                                     refine tk4_ 7 152 Y0.q11 HT_.out HW_.out hHeld ?_
                                     refine tk4_ 11 156 Y0.q12 HT_.out HW_.out hHeld ?_
                                     refine pu_ 12 157 Y0.q13 HT_.out ?_
                                     refine last_ (i:=13) (N:=none) Y0.q14 rfl rfl (one_of HT_.out (by kernel_rfl)) (by decide) (fun K hK=>?_)
                                     refine skip_ (w1:=?_) (by rfl) rfl ?_ ?_
                                     rotate_left
                                     ·go_simp
                                      rfl
                                     refine hK.out _ _ ?_
                                     clear hK K
                                     refine pu_ 14 158 Y0.q15 HT_.out ?_
                                     refine last_ (i:=15) (N:=none) Y0.q16 rfl rfl (one_of HT_.out (by kernel_rfl)) (by decide) (fun K hK=>?_)
                                     refine skip_ (w1:=?_) (by rfl) rfl ?_ ?_
                                     rotate_left
                                     ·go_simp
                                      rfl
                                     refine hK.out _ _ ?_
                                     clear hK K
                                     refine done_ (done_of HT_.out (by kernel_rfl)) ?_
                                     try go_wp2
                                     (try simp only [← hl0_5])
                                     go_roundg kj67
                                     case measure=>have:=HK1.out;have:=HJ15.out;have:=HK3.out;have:=HJ26.out;have:=HK5.out;have:=HK6.out;have:=HJ56.out;have:=HK8.out;have:=HJ67.out;omega
                                     case rel=>exact ⟨(y223),(wrap64 (x12_6+1)),(wrap64 (x13_8-1)),(z2_),(z2_),H',⟨by have:=HK1.out;have:=HJ15.out;have:=HK3.out;have:=HJ26.out;have:=HK5.out;have:=HK6.out;have:=HJ56.out;have:=HK8.out;have:=HJ67.out;omega⟩,⟨z29_ HQ97.out⟩,⟨z40_ HK.out HMgo10.out⟩,⟨z41_ HB.out GB10.out⟩⟩
                                    ·rw [if_neg c92] at H
                                     exact nO H
                                   ·rw [if_neg c91] at H
                                    exact nO H
                                  ·rw [if_neg c90] at H
                                   exact nO H
                                 ·rw [if_neg c89] at H
                                  exact nO H
                   ·rw [if_neg c51] at H
                    exact nO H
                  ·rw [if_neg c50] at H
                   exact nO H
                 ·rw [if_neg c49] at H
                  exact nO H
                ·rw [if_neg c48] at H
                 exact nO H
    ·rw [if_neg c9] at H
     exact nO H
   ·rw [if_neg c8] at H
    exact nO H
  ·rw [if_neg c7] at H
   exact nO H
 ·rw [if_neg c6] at H
  exact nO H

end Go.Proofs.YtelecnmflodkkaaDoor.P
