/- Of drawn version vectors: a join contains what either contains and nothing else, an added dot is contained, what is encoded is read back; and all the program's functions of version vectors are the reference's. No condition. (Part 3 of 5: written by programs of this workplace and by hand, merged.) -/
import Derived.Test.YtmefchanjoadfaaMFnSeena
import Derived.Test.YtmefchanjoadfaaMFnSeenb
set_option linter.unusedVariables false
set_option linter.unusedSimpArgs false
set_option maxHeartbeats 8000000
set_option maxRecDepth 100000

namespace Go.Proofs.Ytmefchanjoadfaa.P
open Go.RowKit Go.Proofs.YtmefchanjoadfaaW.PrintWords Go.Proofs.YtmefchanjoadfaaW.PrintLast Go.Proofs.YtmefchanjoadfaaW.PrintMore
attribute [local go_sem] max2_int min2_int max_two min_two max_three min_three max_four min_four   -- for this text's walks alone
set_option linter.unusedVariables false
set_option linter.unusedSimpArgs false

/-! ### Y32: function 32 -/
def Y32.f (k:Nat) (l0:List (S49)) (l1:List (S49)):Option (Bool):=(Y12.f k l0).bind fun t656=>(if t656=true then ((Y12.f k l1).bind fun t657=>(if t657=true then ((Y60.f k l0 l1).bind fun t658=>(some t658)) else (some false))) else (some false))
theorem Y32.mono:∀ a0 a1 k,LeO (Y32.f k a0 a1) (Y32.f (k+1) a0 a1):=by
 intro a0 a1 k
 have m0:=@Y12.mono
 have m1:=@Y60.mono
 unfold Y32.f
 exact mO
theorem Y32.calls (k:Nat) (A0:Option Addr) (c0:Nat) (l0:List (S49)) (A1:Option Addr) (c1:Nat) (l1:List (S49)) (r:Bool) (w:World) (hr0:Kd.C k49 w A0 l0.length l0) (hc0:l0.length≤c0) (hr1:Kd.C k49 w A1 l1.length l1) (hc1:l1.length≤c1) (h:Y32.f k l0 l1=some r) :
  Calls Try.prog 32 #[.slice A0 l0.length c0,.slice A1 l1.length c1] w fun e w'=>e = .returned (.bool r)∧Below w.heap.size w w':=by
 have HR0:=aM hr0
 have HC0:=aM hc0
 clear hr0 hc0
 have HR1:=aM hr1
 have HC1:=aM hc1
 clear hr1 hc1
 have HB:=aM (Below.refl w.heap.size w)
 have H:((Y12.f k l0).bind fun t656=>(if t656=true then ((Y12.f k l1).bind fun t657=>(if t657=true then ((Y60.f k l0 l1).bind fun t658=>(some t658)) else (some false))) else (some false)))=some r:=h
 clear h
 replace H:=bS H
 obtain ⟨t656,A30,H⟩:=H
 replace H:(if t656=true then ((Y12.f k l1).bind fun t657=>(if t657=true then ((Y60.f k l0 l1).bind fun t658=>(some t658)) else (some false))) else (some false))=some r:=H
 have A3:=aM A30
 clear A30
 by_cases c4:t656=true
 ·subst c4
  have H1:((Y12.f k l1).bind fun t657=>(if t657=true then ((Y60.f k l0 l1).bind fun t658=>(some t658)) else (some false)))=some r:=by rw [if_pos rfl] at H;exact H
  clear H
  have H:=H1
  clear H1
  replace H:=bS H
  obtain ⟨t657,A50,H⟩:=H
  replace H:(if t657=true then ((Y60.f k l0 l1).bind fun t658=>(some t658)) else (some false))=some r:=H
  have A5:=aM A50
  clear A50
  by_cases c6:t657=true
  ·subst c6
   have H1:((Y60.f k l0 l1).bind fun t658=>(some t658))=some r:=by rw [if_pos rfl] at H;exact H
   clear H
   have H:=H1
   clear H1
   replace H:=bS H
   obtain ⟨t658,A70,H⟩:=H
   replace H:(some t658)=some r:=H
   have A7:=aM A70
   clear A70
   obtain rfl:=sI H
   go_enter Try.func32,Try.ntmps32
   go_wp2_with (first | ((with_reducible refine gc_ 41 ?_);refine gl_ (some 6) Try.func41 #[.slice A0 l0.length c0] ?_;(with_reducible refine (Y12.calls k _ _ l0 true _ ?s1 ?s2 A3.out).mono ?_);(case s1=>repeat (first | exact HR0.out | (with_reducible refine Kd.C_alloc ?_ _) | (with_reducible refine Kd.C_drewN ?_ _) | (with_reducible refine Kd.C_drew ?_)));(case s2=>exact HC0.out);rintro e w8 ⟨rfl,hb⟩;refine ⟨_,rfl,?_⟩;have n0_:=aM (below_step (z1_ HB.out) hb);clear HB;have HB:=n0_;clear n0_;(try clear hb)) | (go_at_call 41;(with_reducible refine (Y12.calls k _ _ l1 true _ ?s1 ?s2 A5.out).mono ?_);(case s1=>repeat (first | exact (Kd.C_below HR1.out HB.out) | (with_reducible refine Kd.C_alloc ?_ _) | (with_reducible refine Kd.C_drewN ?_ _) | (with_reducible refine Kd.C_drew ?_)));(case s2=>exact HC1.out);rintro e w9 ⟨rfl,hb⟩;have n0_:=aM (below_step (z1_ HB.out) hb);clear HB;have HB:=n0_;clear n0_;(try clear hb)) | (go_at_call 81;(with_reducible refine (Y60.calls k _ _ l0 _ _ l1 t658 _ ?s1 ?s2 ?s3 ?s4 A7.out).mono ?_);(case s1=>repeat (first | exact (Kd.C_below HR0.out HB.out) | (with_reducible refine Kd.C_alloc ?_ _) | (with_reducible refine Kd.C_drewN ?_ _) | (with_reducible refine Kd.C_drew ?_)));(case s2=>exact HC0.out);(case s3=>repeat (first | exact (Kd.C_below HR1.out HB.out) | (with_reducible refine Kd.C_alloc ?_ _) | (with_reducible refine Kd.C_drewN ?_ _) | (with_reducible refine Kd.C_drew ?_)));(case s4=>exact HC1.out);rintro e w10 ⟨rfl,hb⟩;have n0_:=aM (below_step (z1_ HB.out) hb);clear HB;have HB:=n0_;clear n0_;(try clear hb)))
   go_ret
   exact ⟨z5_,z1_ HB.out⟩
  ·replace c6:=Bool.eq_false_iff.mpr c6
   subst c6
   have H1:(some false)=some r:=by rw [if_neg (show ¬ (false=true) by decide)] at H;exact H
   clear H
   have H:=H1
   clear H1
   obtain rfl:=sI H
   go_enter Try.func32,Try.ntmps32
   go_wp2_with (first | ((with_reducible refine gc_ 41 ?_);refine gl_ (some 6) Try.func41 #[.slice A0 l0.length c0] ?_;(with_reducible refine (Y12.calls k _ _ l0 true _ ?s1 ?s2 A3.out).mono ?_);(case s1=>repeat (first | exact HR0.out | (with_reducible refine Kd.C_alloc ?_ _) | (with_reducible refine Kd.C_drewN ?_ _) | (with_reducible refine Kd.C_drew ?_)));(case s2=>exact HC0.out);rintro e w11 ⟨rfl,hb⟩;refine ⟨_,rfl,?_⟩;have n0_:=aM (below_step (z1_ HB.out) hb);clear HB;have HB:=n0_;clear n0_;(try clear hb)) | (go_at_call 41;(with_reducible refine (Y12.calls k _ _ l1 false _ ?s1 ?s2 A5.out).mono ?_);(case s1=>repeat (first | exact (Kd.C_below HR1.out HB.out) | (with_reducible refine Kd.C_alloc ?_ _) | (with_reducible refine Kd.C_drewN ?_ _) | (with_reducible refine Kd.C_drew ?_)));(case s2=>exact HC1.out);rintro e w12 ⟨rfl,hb⟩;have n0_:=aM (below_step (z1_ HB.out) hb);clear HB;have HB:=n0_;clear n0_;(try clear hb)))
   go_ret
   exact ⟨z5_,z1_ HB.out⟩
 ·replace c4:=Bool.eq_false_iff.mpr c4
  subst c4
  have H1:(some false)=some r:=by rw [if_neg (show ¬ (false=true) by decide)] at H;exact H
  clear H
  have H:=H1
  clear H1
  obtain rfl:=sI H
  go_enter Try.func32,Try.ntmps32
  go_wp2_with (first | ((with_reducible refine gc_ 41 ?_);refine gl_ (some 6) Try.func41 #[.slice A0 l0.length c0] ?_;(with_reducible refine (Y12.calls k _ _ l0 false _ ?s1 ?s2 A3.out).mono ?_);(case s1=>repeat (first | exact HR0.out | (with_reducible refine Kd.C_alloc ?_ _) | (with_reducible refine Kd.C_drewN ?_ _) | (with_reducible refine Kd.C_drew ?_)));(case s2=>exact HC0.out);rintro e w13 ⟨rfl,hb⟩;refine ⟨_,rfl,?_⟩;have n0_:=aM (below_step (z1_ HB.out) hb);clear HB;have HB:=n0_;clear n0_;(try clear hb)))
  go_ret
  exact ⟨z5_,z1_ HB.out⟩


/-! ### Y17: function 33 -/
mutual
def Y17.j0:Nat→List (S49)→List (S49)→Bool→Option (Bool)
 | 0,_,_,_=>none
 | k+1,x0,x1,x13=>if x13=true then (some false) else (Y17.l0 k x0 x1 0)
def Y17.l0:Nat→List (S49)→List (S49)→Int→Option (Bool)
 | 0,_,_,_=>none
 | k+1,x0,x1,x5=>if x5<(x0.length:Int) then (if 0≤x5 then ((Y30.f k x1 ((rd_T49 x0 x5).f0)).bind fun t663=>(if ((rd_T49 x0 x5).f1)>t663 then (some false) else (Y17.l0 k x0 x1 (wrap64 (x5+1))))) else (none)) else (some true)
end
def Y17.f (k:Nat) (l0:List (S49)) (l1:List (S49)):Option (Bool):=(Y1.f k l0).bind fun t659=>(if t659=true then ((Y1.f k l1).bind fun t660=>(Y17.j0 k l0 l1 (!t660))) else (Y17.j0 k l0 l1 true))
theorem Y17.mono_l:∀ k,(∀ y0 y1 y2,LeO (Y17.j0 k y0 y1 y2) (Y17.j0 (k+1) y0 y1 y2))∧(∀ y0 y1 y2,LeO (Y17.l0 k y0 y1 y2) (Y17.l0 (k+1) y0 y1 y2))
 | 0=>by refine ⟨?_,?_⟩ <;> intros <;> exact LeO.none _
 | k+1=>by
  obtain ⟨ih0,ih1⟩:=Y17.mono_l k
  have m0:=@Y1.mono
  have m1:=@Y30.mono
  refine ⟨?_,?_⟩
  ·intros
   unfold Y17.j0
   exact mO
  ·intros
   unfold Y17.l0
   exact mO
theorem Y17.mono:∀ a0 a1 k,LeO (Y17.f k a0 a1) (Y17.f (k+1) a0 a1):=by
 intro a0 a1 k
 have m0:=@Y1.mono
 have m1:=@Y30.mono
 obtain ⟨ih0,ih1⟩:=Y17.mono_l k
 unfold Y17.f
 exact mO
theorem Y17.calls (k:Nat) (A0:Option Addr) (c0:Nat) (l0:List (S49)) (A1:Option Addr) (c1:Nat) (l1:List (S49)) (r:Bool) (w:World) (hr0:Kd.C k49 w A0 l0.length l0) (hc0:l0.length≤c0) (hr1:Kd.C k49 w A1 l1.length l1) (hc1:l1.length≤c1) (h:Y17.f k l0 l1=some r) :
  Calls Try.prog 33 #[.slice A0 l0.length c0,.slice A1 l1.length c1] w fun e w'=>e = .returned (.bool r)∧Below w.heap.size w w':=by
 have HR0:=aM hr0
 have HC0:=aM hc0
 clear hr0 hc0
 have HR1:=aM hr1
 have HC1:=aM hc1
 clear hr1 hc1
 have HB:=aM (Below.refl w.heap.size w)
 have H:((Y1.f k l0).bind fun t659=>(if t659=true then ((Y1.f k l1).bind fun t660=>(Y17.j0 k l0 l1 (!t660))) else (Y17.j0 k l0 l1 true)))=some r:=h
 clear h
 have HC3:=aM H
 clear H
 go_enter Try.func33,Try.ntmps33
 go_upto_region 1 with (fail)
 repeat (go_quiet (fail);go_upto_region 1 with (fail))
 go_cut [13] (fun v13 wc=>∃ (kq:Nat) (x13_2:Bool),v13 = .bool x13_2∧Aside0 (Y17.j0 kq l0 l1 x13_2=some r)∧Aside0 (kq≤k)∧Aside0 (Below w.heap.size w wc))
 case first =>
  have H:=HC3.out
  clear HC3
  replace H:=bS H
  obtain ⟨t659,A40,H⟩:=H
  replace H:(if t659=true then ((Y1.f k l1).bind fun t660=>(Y17.j0 k l0 l1 (!t660))) else (Y17.j0 k l0 l1 true))=some r:=H
  have A4:=aM A40
  clear A40
  by_cases c5:t659=true
  ·subst c5
   have H1:((Y1.f k l1).bind fun t660=>(Y17.j0 k l0 l1 (!t660)))=some r:=by rw [if_pos rfl] at H;exact H
   clear H
   have H:=H1
   clear H1
   replace H:=bS H
   obtain ⟨t660,A60,H⟩:=H
   replace H:(Y17.j0 k l0 l1 (!t660))=some r:=H
   have A6:=aM A60
   clear A60
   have H':=aM H
   clear H
   go_wp2_with (first | (go_at_call 42;(with_reducible refine (Y1.calls k _ _ l0 true _ ?s1 ?s2 A4.out).mono ?_);(case s1=>repeat (first | exact (Kd.C_below HR0.out HB.out) | (with_reducible refine Kd.C_alloc ?_ _) | (with_reducible refine Kd.C_drewN ?_ _) | (with_reducible refine Kd.C_drew ?_)));(case s2=>exact HC0.out);rintro e w7 ⟨rfl,hb⟩;have n0_:=aM (below_step (z1_ HB.out) hb);clear HB;have HB:=n0_;clear n0_;(try clear hb)) | (go_at_call 42;(with_reducible refine (Y1.calls k _ _ l1 t660 _ ?s1 ?s2 A6.out).mono ?_);(case s1=>repeat (first | exact (Kd.C_below HR1.out HB.out) | (with_reducible refine Kd.C_alloc ?_ _) | (with_reducible refine Kd.C_drewN ?_ _) | (with_reducible refine Kd.C_drew ?_)));(case s2=>exact HC1.out);rintro e w8 ⟨rfl,hb⟩;have n0_:=aM (below_step (z1_ HB.out) hb);clear HB;have HB:=n0_;clear n0_;(try clear hb)))
   repeat (go_quiet (first | (go_at_call 42;(with_reducible refine (Y1.calls k _ _ l0 true _ ?s1 ?s2 A4.out).mono ?_);(case s1=>repeat (first | exact (Kd.C_below HR0.out HB.out) | (with_reducible refine Kd.C_alloc ?_ _) | (with_reducible refine Kd.C_drewN ?_ _) | (with_reducible refine Kd.C_drew ?_)));(case s2=>exact HC0.out);rintro e w7 ⟨rfl,hb⟩;have n0_:=aM (below_step (z1_ HB.out) hb);clear HB;have HB:=n0_;clear n0_;(try clear hb)) | (go_at_call 42;(with_reducible refine (Y1.calls k _ _ l1 t660 _ ?s1 ?s2 A6.out).mono ?_);(case s1=>repeat (first | exact (Kd.C_below HR1.out HB.out) | (with_reducible refine Kd.C_alloc ?_ _) | (with_reducible refine Kd.C_drewN ?_ _) | (with_reducible refine Kd.C_drew ?_)));(case s2=>exact HC1.out);rintro e w8 ⟨rfl,hb⟩;have n0_:=aM (below_step (z1_ HB.out) hb);clear HB;have HB:=n0_;clear n0_;(try clear hb)));try go_wp2_with (first | (go_at_call 42;(with_reducible refine (Y1.calls k _ _ l0 true _ ?s1 ?s2 A4.out).mono ?_);(case s1=>repeat (first | exact (Kd.C_below HR0.out HB.out) | (with_reducible refine Kd.C_alloc ?_ _) | (with_reducible refine Kd.C_drewN ?_ _) | (with_reducible refine Kd.C_drew ?_)));(case s2=>exact HC0.out);rintro e w7 ⟨rfl,hb⟩;have n0_:=aM (below_step (z1_ HB.out) hb);clear HB;have HB:=n0_;clear n0_;(try clear hb)) | (go_at_call 42;(with_reducible refine (Y1.calls k _ _ l1 t660 _ ?s1 ?s2 A6.out).mono ?_);(case s1=>repeat (first | exact (Kd.C_below HR1.out HB.out) | (with_reducible refine Kd.C_alloc ?_ _) | (with_reducible refine Kd.C_drewN ?_ _) | (with_reducible refine Kd.C_drew ?_)));(case s2=>exact HC1.out);rintro e w8 ⟨rfl,hb⟩;have n0_:=aM (below_step (z1_ HB.out) hb);clear HB;have HB:=n0_;clear n0_;(try clear hb))))
   go_meet
   case rel=>exact ⟨_,(!t660),(z3_),H',⟨by first | omega | exact Nat.le_refl _⟩,⟨z1_ HB.out⟩⟩
  ·replace c5:=Bool.eq_false_iff.mpr c5
   subst c5
   have H1:(Y17.j0 k l0 l1 true)=some r:=by rw [if_neg (show ¬ (false=true) by decide)] at H;exact H
   clear H
   have H:=H1
   clear H1
   have H':=aM H
   clear H
   go_wp2_with (first | (go_at_call 42;(with_reducible refine (Y1.calls k _ _ l0 false _ ?s1 ?s2 A4.out).mono ?_);(case s1=>repeat (first | exact (Kd.C_below HR0.out HB.out) | (with_reducible refine Kd.C_alloc ?_ _) | (with_reducible refine Kd.C_drewN ?_ _) | (with_reducible refine Kd.C_drew ?_)));(case s2=>exact HC0.out);rintro e w9 ⟨rfl,hb⟩;have n0_:=aM (below_step (z1_ HB.out) hb);clear HB;have HB:=n0_;clear n0_;(try clear hb)))
   repeat (go_quiet (first | (go_at_call 42;(with_reducible refine (Y1.calls k _ _ l0 false _ ?s1 ?s2 A4.out).mono ?_);(case s1=>repeat (first | exact (Kd.C_below HR0.out HB.out) | (with_reducible refine Kd.C_alloc ?_ _) | (with_reducible refine Kd.C_drewN ?_ _) | (with_reducible refine Kd.C_drew ?_)));(case s2=>exact HC0.out);rintro e w9 ⟨rfl,hb⟩;have n0_:=aM (below_step (z1_ HB.out) hb);clear HB;have HB:=n0_;clear n0_;(try clear hb)));try go_wp2_with (first | (go_at_call 42;(with_reducible refine (Y1.calls k _ _ l0 false _ ?s1 ?s2 A4.out).mono ?_);(case s1=>repeat (first | exact (Kd.C_below HR0.out HB.out) | (with_reducible refine Kd.C_alloc ?_ _) | (with_reducible refine Kd.C_drewN ?_ _) | (with_reducible refine Kd.C_drew ?_)));(case s2=>exact HC0.out);rintro e w9 ⟨rfl,hb⟩;have n0_:=aM (below_step (z1_ HB.out) hb);clear HB;have HB:=n0_;clear n0_;(try clear hb))))
   go_meet
   case rel=>exact ⟨_,(true),(z3_),H',⟨by first | omega | exact Nat.le_refl _⟩,⟨z1_ HB.out⟩⟩
 case rest =>
  clear HC3
  try clear c1
  try clear p2
  try clear c3
  try clear c5
  obtain ⟨kq,x13_2,rfl,HA,HJ2,HB⟩:=hcut
  cases kq with
  | zero=>exact absurd HA.out (by simp [Y17.j0])
  | succ kj2 =>
   have H:=HA.out
   clear HA
   simp only [Y17.j0] at H
   by_cases c10:x13_2=true
   ·subst c10
    have H1:(some false)=some r:=by rw [if_pos rfl] at H;exact H
    clear H
    have H:=H1
    clear H1
    obtain rfl:=sI H
    go_wp2
    repeat (go_quiet (fail);try go_wp2)
    go_ret
    exact ⟨z5_,z1_ HB.out⟩
   ·replace c10:=Bool.eq_false_iff.mpr c10
    subst c10
    have H1:(Y17.l0 kj2 l0 l1 0)=some r:=by rw [if_neg (show ¬ (false=true) by decide)] at H;exact H
    clear H
    have H:=H1
    clear H1
    have H':=aM H
    clear H
    go_wp2
    repeat (go_quiet (fail);try go_wp2)
    go_loopg [5] kj2 (fun kq v5 w'=>∃ (x5_2:Int),v5 = .int .i64 x5_2∧Aside0 (Y17.l0 kq l0 l1 x5_2=some r)∧Aside0 (kq≤kj2)∧Aside0 (Below w.heap.size w w'))
    case atStart=>exact ⟨(0),(z3_),H',⟨Nat.le_refl _⟩,⟨z1_ HB.out⟩⟩
    case round =>
     clear H'
     try clear c1
     try clear p2
     try clear c3
     try clear c5
     try clear c10
     try clear p2
     obtain ⟨x5_2,rfl,HA,HK2,HB⟩:=hrel
     cases gk with
     | zero=>exact absurd HA.out (by simp [Y17.l0])
     | succ k2 =>
      have H:=HA.out
      clear HA
      simp only [Y17.l0] at H
      by_cases c11:x5_2<(l0.length:Int)
      ·rw [if_pos c11] at H
       have c11b0:decide (x5_2<(l0.length:Int))=true:=dE c11
       clear c11
       by_cases c12:0≤x5_2
       ·rw [if_pos c12] at H
        have c12b0:decide (0≤x5_2)=true:=dE c12
        clear c12
        replace H:=bS H
        obtain ⟨t663,A130,H⟩:=H
        replace H:(if ((rd_T49 l0 x5_2).f1)>t663 then (some false) else (Y17.l0 k2 l0 l1 (wrap64 (x5_2+1))))=some r:=H
        have A13:=aM A130
        clear A130
        by_cases c14:((rd_T49 l0 x5_2).f1)>t663
        ·rw [if_pos c14] at H
         have c14b0:decide (t663<((rd_T49 l0 x5_2).f1))=true:=dE c14
         clear c14
         obtain rfl:=sI H
         have p661:0≤(x5_2:Int):=dT (z7_)
         have q661:x5_2<(l0.length:Int):=dT (z7_)
         obtain ⟨ad661,e661,hx661_0,hx661_1⟩:=at_T49 HR0.out x5_2 p661 q661
         cases e661
         replace hx661_0:=(HB.out.cell (World.block_lt_of_cell? w _ hx661_0)).trans hx661_0
         replace hx661_1:=(HB.out.cell (World.block_lt_of_cell? w _ hx661_1)).trans hx661_1
         replace p661:=eq_true p661
         replace q661:=eq_true q661
         have p662:0≤(x5_2:Int):=dT (z7_)
         have q662:x5_2<(l0.length:Int):=dT (z7_)
         obtain ⟨ad662,e662,hx662_0,hx662_1⟩:=at_T49 HR0.out x5_2 p662 q662
         obtain rfl:ad661=ad662:=(by injection e662)
         replace hx662_0:=(HB.out.cell (World.block_lt_of_cell? w _ hx662_0)).trans hx662_0
         replace hx662_1:=(HB.out.cell (World.block_lt_of_cell? w _ hx662_1)).trans hx662_1
         replace p662:=eq_true p662
         replace q662:=eq_true q662
         go_wp2_with (first | (go_at_call 82;(with_reducible refine (Y30.calls k2 _ _ l1 ((rd_T49 l0 x5_2).f0) t663 _ ?s1 ?s2 A13.out).mono ?_);(case s1=>repeat (first | exact (Kd.C_below HR1.out HB.out) | (with_reducible refine Kd.C_alloc ?_ _) | (with_reducible refine Kd.C_drewN ?_ _) | (with_reducible refine Kd.C_drew ?_)));(case s2=>exact HC1.out);rintro e w' ⟨rfl,⟨nd,rfl⟩⟩;(try first | exact ⟨rfl,_,World.drewN_drewN _ _ _⟩ | exact ⟨rfl,_,Eq.trans (World.drewN_drewN _ _ _) (congrArg (World.drewN _) (Nat.add_assoc _ _ _))⟩)))
         repeat (go_quiet (first | (go_at_call 82;(with_reducible refine (Y30.calls k2 _ _ l1 ((rd_T49 l0 x5_2).f0) t663 _ ?s1 ?s2 A13.out).mono ?_);(case s1=>repeat (first | exact (Kd.C_below HR1.out HB.out) | (with_reducible refine Kd.C_alloc ?_ _) | (with_reducible refine Kd.C_drewN ?_ _) | (with_reducible refine Kd.C_drew ?_)));(case s2=>exact HC1.out);rintro e w' ⟨rfl,⟨nd,rfl⟩⟩;(try first | exact ⟨rfl,_,World.drewN_drewN _ _ _⟩ | exact ⟨rfl,_,Eq.trans (World.drewN_drewN _ _ _) (congrArg (World.drewN _) (Nat.add_assoc _ _ _))⟩)));try go_wp2_with (first | (go_at_call 82;(with_reducible refine (Y30.calls k2 _ _ l1 ((rd_T49 l0 x5_2).f0) t663 _ ?s1 ?s2 A13.out).mono ?_);(case s1=>repeat (first | exact (Kd.C_below HR1.out HB.out) | (with_reducible refine Kd.C_alloc ?_ _) | (with_reducible refine Kd.C_drewN ?_ _) | (with_reducible refine Kd.C_drew ?_)));(case s2=>exact HC1.out);rintro e w' ⟨rfl,⟨nd,rfl⟩⟩;(try first | exact ⟨rfl,_,World.drewN_drewN _ _ _⟩ | exact ⟨rfl,_,Eq.trans (World.drewN_drewN _ _ _) (congrArg (World.drewN _) (Nat.add_assoc _ _ _))⟩))))
         go_ret
         exact ⟨z5_,z1_ HB.out⟩
        ·rw [if_neg c14] at H
         have c14b0:decide (t663<((rd_T49 l0 x5_2).f1))=false:=dF c14
         clear c14
         have H':=aM H
         clear H
         have p661:0≤(x5_2:Int):=dT (z7_)
         have q661:x5_2<(l0.length:Int):=dT (z7_)
         obtain ⟨ad661,e661,hx661_0,hx661_1⟩:=at_T49 HR0.out x5_2 p661 q661
         cases e661
         replace hx661_0:=(HB.out.cell (World.block_lt_of_cell? w _ hx661_0)).trans hx661_0
         replace hx661_1:=(HB.out.cell (World.block_lt_of_cell? w _ hx661_1)).trans hx661_1
         replace p661:=eq_true p661
         replace q661:=eq_true q661
         have p662:0≤(x5_2:Int):=dT (z7_)
         have q662:x5_2<(l0.length:Int):=dT (z7_)
         obtain ⟨ad662,e662,hx662_0,hx662_1⟩:=at_T49 HR0.out x5_2 p662 q662
         obtain rfl:ad661=ad662:=(by injection e662)
         replace hx662_0:=(HB.out.cell (World.block_lt_of_cell? w _ hx662_0)).trans hx662_0
         replace hx662_1:=(HB.out.cell (World.block_lt_of_cell? w _ hx662_1)).trans hx662_1
         replace p662:=eq_true p662
         replace q662:=eq_true q662
         go_wp2_with (first | (go_at_call 82;(with_reducible refine (Y30.calls k2 _ _ l1 ((rd_T49 l0 x5_2).f0) t663 _ ?s1 ?s2 A13.out).mono ?_);(case s1=>repeat (first | exact (Kd.C_below HR1.out HB.out) | (with_reducible refine Kd.C_alloc ?_ _) | (with_reducible refine Kd.C_drewN ?_ _) | (with_reducible refine Kd.C_drew ?_)));(case s2=>exact HC1.out);rintro e w' ⟨rfl,⟨nd,rfl⟩⟩;(try first | exact ⟨rfl,_,World.drewN_drewN _ _ _⟩ | exact ⟨rfl,_,Eq.trans (World.drewN_drewN _ _ _) (congrArg (World.drewN _) (Nat.add_assoc _ _ _))⟩)))
         repeat (go_quiet (first | (go_at_call 82;(with_reducible refine (Y30.calls k2 _ _ l1 ((rd_T49 l0 x5_2).f0) t663 _ ?s1 ?s2 A13.out).mono ?_);(case s1=>repeat (first | exact (Kd.C_below HR1.out HB.out) | (with_reducible refine Kd.C_alloc ?_ _) | (with_reducible refine Kd.C_drewN ?_ _) | (with_reducible refine Kd.C_drew ?_)));(case s2=>exact HC1.out);rintro e w' ⟨rfl,⟨nd,rfl⟩⟩;(try first | exact ⟨rfl,_,World.drewN_drewN _ _ _⟩ | exact ⟨rfl,_,Eq.trans (World.drewN_drewN _ _ _) (congrArg (World.drewN _) (Nat.add_assoc _ _ _))⟩)));try go_wp2_with (first | (go_at_call 82;(with_reducible refine (Y30.calls k2 _ _ l1 ((rd_T49 l0 x5_2).f0) t663 _ ?s1 ?s2 A13.out).mono ?_);(case s1=>repeat (first | exact (Kd.C_below HR1.out HB.out) | (with_reducible refine Kd.C_alloc ?_ _) | (with_reducible refine Kd.C_drewN ?_ _) | (with_reducible refine Kd.C_drew ?_)));(case s2=>exact HC1.out);rintro e w' ⟨rfl,⟨nd,rfl⟩⟩;(try first | exact ⟨rfl,_,World.drewN_drewN _ _ _⟩ | exact ⟨rfl,_,Eq.trans (World.drewN_drewN _ _ _) (congrArg (World.drewN _) (Nat.add_assoc _ _ _))⟩))))
         go_roundg k2
         case measure=>have:=HJ2.out;have:=HK2.out;omega
         case rel=>exact ⟨(wrap64 (x5_2+1)),(z3_),H',⟨by have:=HJ2.out;have:=HK2.out;omega⟩,⟨z1_ HB.out⟩⟩
       ·rw [if_neg c12] at H
        exact nO H
      ·rw [if_neg c11] at H
       have c11b0:decide (x5_2<(l0.length:Int))=false:=dF c11
       clear c11
       obtain rfl:=sI H
       go_wp2
       repeat (go_quiet (fail);try go_wp2)
       go_ret
       exact ⟨z5_,z1_ HB.out⟩


/-! ### Y33: function 35 -/
def Y33.f (k:Nat) (l0:List (S49)) (a1:Int):Option (Int):=(Y12.f k l0).bind fun t664=>(if t664=true then ((Y35.f k l0 a1).bind fun t665=>(some t665)) else (some 0))
theorem Y33.mono:∀ a0 a1 k,LeO (Y33.f k a0 a1) (Y33.f (k+1) a0 a1):=by
 intro a0 a1 k
 have m0:=@Y12.mono
 have m1:=@Y35.mono
 unfold Y33.f
 exact mO
theorem Y33.calls (k:Nat) (A0:Option Addr) (c0:Nat) (l0:List (S49)) (a1:Int) (r:Int) (w:World) (hr0:Kd.C k49 w A0 l0.length l0) (hc0:l0.length≤c0) (h:Y33.f k l0 a1=some r) :
  Calls Try.prog 35 #[.slice A0 l0.length c0,.int .i64 a1] w fun e w'=>e = .returned (.int .i64 r)∧Below w.heap.size w w':=by
 have HR0:=aM hr0
 have HC0:=aM hc0
 clear hr0 hc0
 have HB:=aM (Below.refl w.heap.size w)
 have H:((Y12.f k l0).bind fun t664=>(if t664=true then ((Y35.f k l0 a1).bind fun t665=>(some t665)) else (some 0)))=some r:=h
 clear h
 replace H:=bS H
 obtain ⟨t664,A30,H⟩:=H
 replace H:(if t664=true then ((Y35.f k l0 a1).bind fun t665=>(some t665)) else (some 0))=some r:=H
 have A3:=aM A30
 clear A30
 by_cases c4:t664=true
 ·subst c4
  have H1:((Y35.f k l0 a1).bind fun t665=>(some t665))=some r:=by rw [if_pos rfl] at H;exact H
  clear H
  have H:=H1
  clear H1
  replace H:=bS H
  obtain ⟨t665,A50,H⟩:=H
  replace H:(some t665)=some r:=H
  have A5:=aM A50
  clear A50
  obtain rfl:=sI H
  go_enter Try.func35,Try.ntmps35
  go_wp2_with (first | ((with_reducible refine gc_ 41 ?_);refine gl_ (some 6) Try.func41 #[.slice A0 l0.length c0] ?_;(with_reducible refine (Y12.calls k _ _ l0 true _ ?s1 ?s2 A3.out).mono ?_);(case s1=>repeat (first | exact HR0.out | (with_reducible refine Kd.C_alloc ?_ _) | (with_reducible refine Kd.C_drewN ?_ _) | (with_reducible refine Kd.C_drew ?_)));(case s2=>exact HC0.out);rintro e w6 ⟨rfl,hb⟩;refine ⟨_,rfl,?_⟩;have n0_:=aM (below_step (z1_ HB.out) hb);clear HB;have HB:=n0_;clear n0_;(try clear hb)) | ((with_reducible refine gc_ 84 ?_);refine gl_ (some 10) Try.func84 #[.slice A0 l0.length c0,.int .i64 a1] ?_;(with_reducible refine (Y35.calls k _ _ l0 a1 t665 _ ?s1 ?s2 A5.out).mono ?_);(case s1=>repeat (first | exact (Kd.C_below HR0.out HB.out) | (with_reducible refine Kd.C_alloc ?_ _) | (with_reducible refine Kd.C_drewN ?_ _) | (with_reducible refine Kd.C_drew ?_)));(case s2=>exact HC0.out);rintro e w7 ⟨rfl,hb⟩;refine ⟨_,rfl,?_⟩;have n0_:=aM (below_step (z1_ HB.out) hb);clear HB;have HB:=n0_;clear n0_;(try clear hb)))
  go_ret
  exact ⟨z5_,z1_ HB.out⟩
 ·replace c4:=Bool.eq_false_iff.mpr c4
  subst c4
  have H1:(some 0)=some r:=by rw [if_neg (show ¬ (false=true) by decide)] at H;exact H
  clear H
  have H:=H1
  clear H1
  obtain rfl:=sI H
  go_enter Try.func35,Try.ntmps35
  go_wp2_with (first | ((with_reducible refine gc_ 41 ?_);refine gl_ (some 6) Try.func41 #[.slice A0 l0.length c0] ?_;(with_reducible refine (Y12.calls k _ _ l0 false _ ?s1 ?s2 A3.out).mono ?_);(case s1=>repeat (first | exact HR0.out | (with_reducible refine Kd.C_alloc ?_ _) | (with_reducible refine Kd.C_drewN ?_ _) | (with_reducible refine Kd.C_drew ?_)));(case s2=>exact HC0.out);rintro e w8 ⟨rfl,hb⟩;refine ⟨_,rfl,?_⟩;have n0_:=aM (below_step (z1_ HB.out) hb);clear HB;have HB:=n0_;clear n0_;(try clear hb)))
  go_ret
  exact ⟨z5_,z1_ HB.out⟩


/-! ### Y40: function 36 -/
def Y40.f (k:Nat) (l0:List (S49)) (a1:Int):Option (Int):=(Y1.f k l0).bind fun t666=>(if t666=true then ((Y30.f k l0 a1).bind fun t667=>(some t667)) else (some 0))
theorem Y40.mono:∀ a0 a1 k,LeO (Y40.f k a0 a1) (Y40.f (k+1) a0 a1):=by
 intro a0 a1 k
 have m0:=@Y1.mono
 have m1:=@Y30.mono
 unfold Y40.f
 exact mO
theorem Y40.calls (k:Nat) (A0:Option Addr) (c0:Nat) (l0:List (S49)) (a1:Int) (r:Int) (w:World) (hr0:Kd.C k49 w A0 l0.length l0) (hc0:l0.length≤c0) (h:Y40.f k l0 a1=some r) :
  Calls Try.prog 36 #[.slice A0 l0.length c0,.int .i64 a1] w fun e w'=>e = .returned (.int .i64 r)∧Below w.heap.size w w':=by
 have HR0:=aM hr0
 have HC0:=aM hc0
 clear hr0 hc0
 have HB:=aM (Below.refl w.heap.size w)
 have H:((Y1.f k l0).bind fun t666=>(if t666=true then ((Y30.f k l0 a1).bind fun t667=>(some t667)) else (some 0)))=some r:=h
 clear h
 replace H:=bS H
 obtain ⟨t666,A30,H⟩:=H
 replace H:(if t666=true then ((Y30.f k l0 a1).bind fun t667=>(some t667)) else (some 0))=some r:=H
 have A3:=aM A30
 clear A30
 by_cases c4:t666=true
 ·subst c4
  have H1:((Y30.f k l0 a1).bind fun t667=>(some t667))=some r:=by rw [if_pos rfl] at H;exact H
  clear H
  have H:=H1
  clear H1
  replace H:=bS H
  obtain ⟨t667,A50,H⟩:=H
  replace H:(some t667)=some r:=H
  have A5:=aM A50
  clear A50
  obtain rfl:=sI H
  go_enter Try.func36,Try.ntmps36
  go_wp2_with (first | ((with_reducible refine gc_ 42 ?_);refine gl_ (some 6) Try.func42 #[.slice A0 l0.length c0] ?_;(with_reducible refine (Y1.calls k _ _ l0 true _ ?s1 ?s2 A3.out).mono ?_);(case s1=>repeat (first | exact HR0.out | (with_reducible refine Kd.C_alloc ?_ _) | (with_reducible refine Kd.C_drewN ?_ _) | (with_reducible refine Kd.C_drew ?_)));(case s2=>exact HC0.out);rintro e w6 ⟨rfl,hb⟩;refine ⟨_,rfl,?_⟩;have n0_:=aM (below_step (z1_ HB.out) hb);clear HB;have HB:=n0_;clear n0_;(try clear hb)) | ((with_reducible refine gc_ 82 ?_);refine gl_ (some 10) Try.func82 #[.slice A0 l0.length c0,.int .i64 a1] ?_;(with_reducible refine (Y30.calls k _ _ l0 a1 t667 _ ?s1 ?s2 A5.out).mono ?_);(case s1=>repeat (first | exact (Kd.C_below HR0.out HB.out) | (with_reducible refine Kd.C_alloc ?_ _) | (with_reducible refine Kd.C_drewN ?_ _) | (with_reducible refine Kd.C_drew ?_)));(case s2=>exact HC0.out);rintro e w' ⟨rfl,⟨nd,rfl⟩⟩;refine ⟨_,rfl,?_⟩))
  go_ret
  exact ⟨z5_,z1_ HB.out⟩
 ·replace c4:=Bool.eq_false_iff.mpr c4
  subst c4
  have H1:(some 0)=some r:=by rw [if_neg (show ¬ (false=true) by decide)] at H;exact H
  clear H
  have H:=H1
  clear H1
  obtain rfl:=sI H
  go_enter Try.func36,Try.ntmps36
  go_wp2_with (first | ((with_reducible refine gc_ 42 ?_);refine gl_ (some 6) Try.func42 #[.slice A0 l0.length c0] ?_;(with_reducible refine (Y1.calls k _ _ l0 false _ ?s1 ?s2 A3.out).mono ?_);(case s1=>repeat (first | exact HR0.out | (with_reducible refine Kd.C_alloc ?_ _) | (with_reducible refine Kd.C_drewN ?_ _) | (with_reducible refine Kd.C_drew ?_)));(case s2=>exact HC0.out);rintro e w7 ⟨rfl,hb⟩;refine ⟨_,rfl,?_⟩;have n0_:=aM (below_step (z1_ HB.out) hb);clear HB;have HB:=n0_;clear n0_;(try clear hb)))
  go_ret
  exact ⟨z5_,z1_ HB.out⟩


/-! ### Y4: function 37 -/
def Y4.f (k:Nat) (l0:List (S49)) (a1_0:Int) (a1_1:Int):Option (Bool):=(Y12.f k l0).bind fun t669=>(if t669=true then ((Y58.f a1_0 a1_1).bind fun t670=>(if t670=true then ((Y46.f k l0 a1_0 a1_1).bind fun t671=>(some t671)) else (some false))) else (some false))
theorem Y4.mono:∀ a0 a1 a2 k,LeO (Y4.f k a0 a1 a2) (Y4.f (k+1) a0 a1 a2):=by
 intro a0 a1 a2 k
 have m0:=@Y12.mono
 have m1:=@Y46.mono
 unfold Y4.f
 exact mO
theorem Y4.calls (k:Nat) (A0:Option Addr) (c0:Nat) (l0:List (S49)) (a1_0:Int) (a1_1:Int) (r:Bool) (w:World) (hr0:Kd.C k49 w A0 l0.length l0) (hc0:l0.length≤c0) (h:Y4.f k l0 a1_0 a1_1=some r) :
  Calls Try.prog 37 #[.slice A0 l0.length c0,.agg #[.int .i64 a1_0,.int .i64 a1_1]] w fun e w'=>e = .returned (.bool r)∧Below w.heap.size w w':=by
 have hu49:=Try.underlying49
 have HR0:=aM hr0
 have HC0:=aM hc0
 clear hr0 hc0
 have HB:=aM (Below.refl w.heap.size w)
 have H:((Y12.f k l0).bind fun t669=>(if t669=true then ((Y58.f a1_0 a1_1).bind fun t670=>(if t670=true then ((Y46.f k l0 a1_0 a1_1).bind fun t671=>(some t671)) else (some false))) else (some false)))=some r:=h
 clear h
 replace H:=bS H
 obtain ⟨t669,A30,H⟩:=H
 replace H:(if t669=true then ((Y58.f a1_0 a1_1).bind fun t670=>(if t670=true then ((Y46.f k l0 a1_0 a1_1).bind fun t671=>(some t671)) else (some false))) else (some false))=some r:=H
 have A3:=aM A30
 clear A30
 by_cases c4:t669=true
 ·subst c4
  have H1:((Y58.f a1_0 a1_1).bind fun t670=>(if t670=true then ((Y46.f k l0 a1_0 a1_1).bind fun t671=>(some t671)) else (some false)))=some r:=by rw [if_pos rfl] at H;exact H
  clear H
  have H:=H1
  clear H1
  replace H:=bS H
  obtain ⟨t670,A50,H⟩:=H
  replace H:(if t670=true then ((Y46.f k l0 a1_0 a1_1).bind fun t671=>(some t671)) else (some false))=some r:=H
  have A5:=aM A50
  clear A50
  by_cases c6:t670=true
  ·subst c6
   have H1:((Y46.f k l0 a1_0 a1_1).bind fun t671=>(some t671))=some r:=by rw [if_pos rfl] at H;exact H
   clear H
   have H:=H1
   clear H1
   replace H:=bS H
   obtain ⟨t671,A70,H⟩:=H
   replace H:(some t671)=some r:=H
   have A7:=aM A70
   clear A70
   obtain rfl:=sI H
   go_enter Try.func37,Try.ntmps37
   go_wp2_with (first | ((with_reducible refine gd_ 3 ?_);refine be_ 3 #[.int .i64 a1_0,.int .i64 a1_1] 49 ?_;intro gb668 hg w8 hbox hb;have n0_:=aM (below_step (z1_ HB.out) hb);have n1_:=aM (hbox);have n2_:=aM ((z8_ HB.out:w.heap.size≤gb668));have n3_:=aM ((z8_ HB.out:w.heap.size≤gb668));clear HB;have HB:=n0_;have BK668:=n1_;have GW668:=n2_;have GE668:=n3_;clear n0_ n1_ n2_ n3_;clear hb hbox hg) | ((with_reducible refine gc_ 41 ?_);refine gl_ (some 6) Try.func41 #[.slice A0 l0.length c0] ?_;(with_reducible refine (Y12.calls k _ _ l0 true _ ?s1 ?s2 A3.out).mono ?_);(case s1=>repeat (first | exact (Kd.C_below HR0.out HB.out) | (with_reducible refine Kd.C_alloc ?_ _) | (with_reducible refine Kd.C_drewN ?_ _) | (with_reducible refine Kd.C_drew ?_)));(case s2=>exact HC0.out);rintro e w9 ⟨rfl,hb⟩;refine ⟨_,rfl,?_⟩;have n0_:=aM (blkB_ BK668.out hb);have n1_:=aM (below_step (z4_ HB.out GE668.out) hb);clear BK668;clear HB;have BK668:=n0_;have HB:=n1_;clear n0_ n1_;(try clear hb);have ⟨hcz10_0,hcz10_1,hfz10_0,hfz10_1⟩:=cz2_ BK668.out) | (go_at_call 73;(with_reducible refine (Y58.calls a1_0 a1_1 true _ A5.out).mono ?_);rintro e w11 ⟨rfl,hb⟩;have n0_:=aM (blkB_ BK668.out hb);have n1_:=aM (below_step (z4_ HB.out GE668.out) hb);clear BK668;clear HB;have BK668:=n0_;have HB:=n1_;clear n0_ n1_;(try clear hb);have ⟨hcz12_0,hcz12_1,hfz12_0,hfz12_1⟩:=cz2_ BK668.out) | (go_at_call 85;(with_reducible refine (Y46.calls k _ _ l0 a1_0 a1_1 t671 _ ?s1 ?s2 A7.out).mono ?_);(case s1=>repeat (first | exact (Kd.C_below HR0.out HB.out) | (with_reducible refine Kd.C_alloc ?_ _) | (with_reducible refine Kd.C_drewN ?_ _) | (with_reducible refine Kd.C_drew ?_)));(case s2=>exact HC0.out);rintro e w13 ⟨rfl,hb⟩;have n0_:=aM (blkB_ BK668.out hb);have n1_:=aM (below_step (z4_ HB.out GE668.out) hb);clear BK668;clear HB;have BK668:=n0_;have HB:=n1_;clear n0_ n1_;(try clear hb)))
   go_ret
   exact ⟨z5_,z4_ HB.out GE668.out⟩
  ·replace c6:=Bool.eq_false_iff.mpr c6
   subst c6
   have H1:(some false)=some r:=by rw [if_neg (show ¬ (false=true) by decide)] at H;exact H
   clear H
   have H:=H1
   clear H1
   obtain rfl:=sI H
   go_enter Try.func37,Try.ntmps37
   go_wp2_with (first | ((with_reducible refine gd_ 3 ?_);refine be_ 3 #[.int .i64 a1_0,.int .i64 a1_1] 49 ?_;intro gb668 hg w14 hbox hb;have n0_:=aM (below_step (z1_ HB.out) hb);have n1_:=aM (hbox);have n2_:=aM ((z8_ HB.out:w.heap.size≤gb668));have n3_:=aM ((z8_ HB.out:w.heap.size≤gb668));clear HB;have HB:=n0_;have BK668:=n1_;have GW668:=n2_;have GE668:=n3_;clear n0_ n1_ n2_ n3_;clear hb hbox hg) | ((with_reducible refine gc_ 41 ?_);refine gl_ (some 6) Try.func41 #[.slice A0 l0.length c0] ?_;(with_reducible refine (Y12.calls k _ _ l0 true _ ?s1 ?s2 A3.out).mono ?_);(case s1=>repeat (first | exact (Kd.C_below HR0.out HB.out) | (with_reducible refine Kd.C_alloc ?_ _) | (with_reducible refine Kd.C_drewN ?_ _) | (with_reducible refine Kd.C_drew ?_)));(case s2=>exact HC0.out);rintro e w15 ⟨rfl,hb⟩;refine ⟨_,rfl,?_⟩;have n0_:=aM (blkB_ BK668.out hb);have n1_:=aM (below_step (z4_ HB.out GE668.out) hb);clear BK668;clear HB;have BK668:=n0_;have HB:=n1_;clear n0_ n1_;(try clear hb);have ⟨hcz16_0,hcz16_1,hfz16_0,hfz16_1⟩:=cz2_ BK668.out) | (go_at_call 73;(with_reducible refine (Y58.calls a1_0 a1_1 false _ A5.out).mono ?_);rintro e w17 ⟨rfl,hb⟩;have n0_:=aM (blkB_ BK668.out hb);have n1_:=aM (below_step (z4_ HB.out GE668.out) hb);clear BK668;clear HB;have BK668:=n0_;have HB:=n1_;clear n0_ n1_;(try clear hb)))
   go_ret
   exact ⟨z5_,z4_ HB.out GE668.out⟩
 ·replace c4:=Bool.eq_false_iff.mpr c4
  subst c4
  have H1:(some false)=some r:=by rw [if_neg (show ¬ (false=true) by decide)] at H;exact H
  clear H
  have H:=H1
  clear H1
  obtain rfl:=sI H
  go_enter Try.func37,Try.ntmps37
  go_wp2_with (first | ((with_reducible refine gd_ 3 ?_);refine be_ 3 #[.int .i64 a1_0,.int .i64 a1_1] 49 ?_;intro gb668 hg w18 hbox hb;have n0_:=aM (below_step (z1_ HB.out) hb);have n1_:=aM (hbox);have n2_:=aM ((z8_ HB.out:w.heap.size≤gb668));have n3_:=aM ((z8_ HB.out:w.heap.size≤gb668));clear HB;have HB:=n0_;have BK668:=n1_;have GW668:=n2_;have GE668:=n3_;clear n0_ n1_ n2_ n3_;clear hb hbox hg) | ((with_reducible refine gc_ 41 ?_);refine gl_ (some 6) Try.func41 #[.slice A0 l0.length c0] ?_;(with_reducible refine (Y12.calls k _ _ l0 false _ ?s1 ?s2 A3.out).mono ?_);(case s1=>repeat (first | exact (Kd.C_below HR0.out HB.out) | (with_reducible refine Kd.C_alloc ?_ _) | (with_reducible refine Kd.C_drewN ?_ _) | (with_reducible refine Kd.C_drew ?_)));(case s2=>exact HC0.out);rintro e w19 ⟨rfl,hb⟩;refine ⟨_,rfl,?_⟩;have n0_:=aM (blkB_ BK668.out hb);have n1_:=aM (below_step (z4_ HB.out GE668.out) hb);clear BK668;clear HB;have BK668:=n0_;have HB:=n1_;clear n0_ n1_;(try clear hb)))
  go_ret
  exact ⟨z5_,z4_ HB.out GE668.out⟩


/-! ### Y8: function 38 -/
def Y8.f (k:Nat) (l0:List (S49)) (a1_0:Int) (a1_1:Int):Option (Bool):=(Y1.f k l0).bind fun t673=>(if t673=true then ((Y57.f a1_0 a1_1).bind fun t674=>(if t674=true then ((Y30.f k l0 a1_0).bind fun t675=>(some (decide (a1_1≤t675)))) else (some false))) else (some false))
theorem Y8.mono:∀ a0 a1 a2 k,LeO (Y8.f k a0 a1 a2) (Y8.f (k+1) a0 a1 a2):=by
 intro a0 a1 a2 k
 have m0:=@Y1.mono
 have m1:=@Y30.mono
 unfold Y8.f
 exact mO
def Y8.T1:Bool × List (List Nat × List Nat):=(true,[([],[]),([0],[0]),([1,1],[1]),([2],[2]),([3,2,2],[2,3]),([2,4],[2,4]),([5,4],[5]),([6],[6]),([7,6],[6,7]),([6],[6]),([6],[6]),([10,6],[6,10]),([9,11,6,6],[6,9,11]),([8,12,6],[6,8,12]),([6,13],[6,13]),([14,12,0,1,2,3,4,5,6,7,8,9,10,11,12,13,14],[14])])
def Y8.B1:List Nat:=[0,1,3,7,15,31,63,127,255,127,127,1151,3711,8191,16383,32767]
theorem Y8.tab1:rtab .any (opsOf Try.f38 1)=Y8.T1:=by kernel_rfl
theorem Y8.bits1:waitsOk Y8.T1.2 Y8.B1=true:=by kernel_rfl
abbrev Y8.q0:Array Bool:=#[O,O,O,O,O,O,O,O,O,O,O,O,O,O,O,O]
abbrev Y8.q1:Array Bool:=#[I,O,O,O,O,O,O,O,O,O,O,O,O,O,O,O]
abbrev Y8.q2:Array Bool:=#[I,I,O,O,O,O,O,O,O,O,O,O,O,O,O,O]
abbrev Y8.q3:Array Bool:=#[I,I,I,O,O,O,O,O,O,O,O,O,O,O,O,O]
abbrev Y8.q4:Array Bool:=#[I,I,I,I,O,O,O,O,O,O,O,O,O,O,O,O]
abbrev Y8.q5:Array Bool:=#[I,I,I,I,I,O,O,O,O,O,O,O,O,O,O,O]
abbrev Y8.q6:Array Bool:=#[I,I,I,I,I,I,O,O,O,O,O,O,O,O,O,O]
abbrev Y8.q7:Array Bool:=#[I,I,I,I,I,I,I,O,O,O,O,O,O,O,O,O]
abbrev Y8.q8:Array Bool:=#[I,I,I,I,I,I,I,I,O,O,O,O,O,O,O,O]
abbrev Y8.q9:Array Bool:=#[I,I,I,I,I,I,I,I,I,I,I,O,O,O,O,O]
abbrev Y8.q10:Array Bool:=#[I,I,I,I,I,I,I,I,I,I,I,I,O,O,O,O]
abbrev Y8.q11:Array Bool:=#[I,I,I,I,I,I,I,I,I,I,I,I,I,O,O,O]
abbrev Y8.q12:Array Bool:=#[I,I,I,I,I,I,I,I,I,I,I,I,I,I,O,O]
abbrev Y8.q13:Array Bool:=#[I,I,I,I,I,I,I,I,I,I,I,I,I,I,I,O]
abbrev Y8.q14:Array Bool:=#[I,I,I,I,I,I,I,I,I,I,I,I,I,I,I,I]
abbrev Y8.q15:Array Bool:=#[I,I,I,I,I,I,I,I,I,O,O,O,O,O,O,O]
abbrev Y8.q16:Array Bool:=#[I,I,I,I,I,I,I,I,I,I,O,O,O,O,O,O]
theorem Y8.calls (k:Nat) (A0:Option Addr) (c0:Nat) (l0:List (S49)) (a1_0:Int) (a1_1:Int) (r:Bool) (w:World) (hr0:Kd.C k49 w A0 l0.length l0) (hc0:l0.length≤c0) (h:Y8.f k l0 a1_0 a1_1=some r) :
  Calls Try.prog 38 #[.slice A0 l0.length c0,.agg #[.int .i64 a1_0,.int .i64 a1_1]] w fun e w'=>e = .returned (.bool r)∧Below w.heap.size w w':=by
 have hu49:=Try.underlying49
 have HR0:=aM hr0
 have HC0:=aM hc0
 clear hr0 hc0
 have HB:=aM (Below.refl w.heap.size w)
 have H:((Y1.f k l0).bind fun t673=>(if t673=true then ((Y57.f a1_0 a1_1).bind fun t674=>(if t674=true then ((Y30.f k l0 a1_0).bind fun t675=>(some (decide (a1_1≤t675)))) else (some false))) else (some false)))=some r:=h
 clear h
 replace H:=bS H
 obtain ⟨t673,A30,H⟩:=H
 replace H:(if t673=true then ((Y57.f a1_0 a1_1).bind fun t674=>(if t674=true then ((Y30.f k l0 a1_0).bind fun t675=>(some (decide (a1_1≤t675)))) else (some false))) else (some false))=some r:=H
 have A3:=aM A30
 clear A30
 by_cases c4:t673=true
 ·subst c4
  have H1:((Y57.f a1_0 a1_1).bind fun t674=>(if t674=true then ((Y30.f k l0 a1_0).bind fun t675=>(some (decide (a1_1≤t675)))) else (some false)))=some r:=by rw [if_pos rfl] at H;exact H
  clear H
  have H:=H1
  clear H1
  replace H:=bS H
  obtain ⟨t674,A50,H⟩:=H
  replace H:(if t674=true then ((Y30.f k l0 a1_0).bind fun t675=>(some (decide (a1_1≤t675)))) else (some false))=some r:=H
  have A5:=aM A50
  clear A50
  by_cases c6:t674=true
  ·subst c6
   have H1:((Y30.f k l0 a1_0).bind fun t675=>(some (decide (a1_1≤t675))))=some r:=by rw [if_pos rfl] at H;exact H
   clear H
   have H:=H1
   clear H1
   replace H:=bS H
   obtain ⟨t675,A70,H⟩:=H
   replace H:(some (decide (a1_1≤t675)))=some r:=H
   have A7:=aM A70
   clear A70
   obtain rfl:=sI H
   go_enter Try.func38,Try.ntmps38
   try go_wp2_with (first | ((with_reducible refine gd_ 3 ?_);refine be_ 3 #[.int .i64 a1_0,.int .i64 a1_1] 49 ?_;intro gb672 hg w8 hbox hb;have n0_:=aM (below_step (z1_ HB.out) hb);have n1_:=aM (hbox);have n2_:=aM ((z8_ HB.out:w.heap.size≤gb672));have n3_:=aM ((z8_ HB.out:w.heap.size≤gb672));clear HB;have HB:=n0_;have BK672:=n1_;have GW672:=n2_;have GE672:=n3_;clear n0_ n1_ n2_ n3_;clear hb hbox hg))
   have n0_:=aM (blk_drew BK672.out)
   have n1_:=aM (below_drew1 HB.out)
   clear BK672
   clear HB
   have BK672:=n0_
   have HB:=n1_
   clear n0_ n1_
   refine start_ (n:=16) (S:=fun w'=>w'.cell? ⟨gb672,0,none⟩=some (.int .i64 a1_0)∧w'.cell? ⟨gb672,1,none⟩=some (.int .i64 a1_1)) (ds:=[]) Y8.q0 (by kernel_rfl) rfl rfl (cc2_ BK672.out) (fun hHeld=>?_);refine with_tabW Y8.tab1 Y8.bits1 (fun HT_ HW_=>?_)
   generalize w8.drew=w9 at BK672 HB hHeld ⊢
   refine pu_ 0 5 Y8.q1 HT_.out ?_
   refine o1_ 1 6 Y8.q2 HT_.out (fun K hK=>?_)
   refine gs_ Try.func42 #[.slice A0 l0.length c0] ?_
   with_reducible refine (Y1.calls k _ _ l0 true _ ?s1 ?s2 A3.out).mono ?_
   (case s1=>repeat (first | exact (Kd.C_below HR0.out HB.out) | (with_reducible refine Kd.C_alloc ?_ _) | (with_reducible refine Kd.C_drewN ?_ _) | (with_reducible refine Kd.C_drew ?_)))
   (case s2=>exact HC0.out)
   rintro e w10 ⟨rfl,hb⟩
   refine ⟨_,rfl,?_⟩
   have n0_:=aM (blkB_ BK672.out hb)
   have n1_:=aM (below_step (z4_ HB.out GE672.out) hb)
   clear BK672
   clear HB
   have BK672:=n0_
   have HB:=n1_
   clear n0_ n1_
   (try clear hb)
   refine hK.out _ _ (cc2_ BK672.out) (fun hHeld=>?_)
   clear hK K
   refine nm_ 6 ?_
   refine pu_ 2 7 Y8.q3 HT_.out ?_
   refine tk2_ 3 8 Y8.q4 HT_.out HW_.out hHeld ?_
   refine o1_ 4 9 Y8.q5 HT_.out (fun K hK=>?_)
   refine gs_ Try.func83 #[.agg #[.int .i64 a1_0,.int .i64 a1_1]] ?_
   with_reducible refine (Y57.calls a1_0 a1_1 true _ A5.out).mono ?_
   rintro e w11 ⟨rfl,hb⟩
   refine ⟨_,rfl,?_⟩
   have n0_:=aM (blkB_ BK672.out hb)
   have n1_:=aM (below_step (z4_ HB.out GE672.out) hb)
   clear BK672
   clear HB
   have BK672:=n0_
   have HB:=n1_
   clear n0_ n1_
   (try clear hb)
   refine hK.out _ _ (cc2_ BK672.out) (fun hHeld=>?_)
   clear hK K
   refine nm_ 9 ?_
   refine pu_ 5 10 Y8.q6 HT_.out ?_
   refine pu_ 6 11 Y8.q7 HT_.out ?_
   refine pu_ 7 12 Y8.q8 HT_.out ?_
   refine pu_ 9 14 #[I,I,I,I,I,I,I,I,O,I,O,O,O,O,O,O] HT_.out ?_
   refine pu_ 10 15 #[I,I,I,I,I,I,I,I,O,I,I,O,O,O,O,O] HT_.out ?_
   refine tk2_ 8 13 Y8.q9 HT_.out HW_.out hHeld ?_
   refine tk2_ 11 16 Y8.q10 HT_.out HW_.out hHeld ?_
   refine o1_ 12 17 Y8.q11 HT_.out (fun K hK=>?_)
   refine gs_ Try.func82 #[.slice A0 l0.length c0,.int .i64 a1_0] ?_
   with_reducible refine (Y30.calls k _ _ l0 a1_0 t675 _ ?s1 ?s2 A7.out).mono ?_
   (case s1=>repeat (first | exact (Kd.C_below HR0.out HB.out) | (with_reducible refine Kd.C_alloc ?_ _) | (with_reducible refine Kd.C_drewN ?_ _) | (with_reducible refine Kd.C_drew ?_)))
   (case s2=>exact HC0.out)
   rintro e w' ⟨rfl,⟨nd,rfl⟩⟩
   refine ⟨_,rfl,?_⟩
   refine hK.out _ _ (cc2_ BK672.out) (fun hHeld=>?_)
   clear hK K
   refine nm_ 17 ?_
   refine pu_ 13 18 Y8.q12 HT_.out ?_
   refine pu_ 14 19 Y8.q13 HT_.out ?_
   refine pu_ 15 4 Y8.q14 HT_.out ?_
   refine done_ (done_of HT_.out (by kernel_rfl)) ?_
   try go_wp2
   go_ret
   exact ⟨z5_,z4_ HB.out GE672.out⟩
  ·replace c6:=Bool.eq_false_iff.mpr c6
   subst c6
   have H1:(some false)=some r:=by rw [if_neg (show ¬ (false=true) by decide)] at H;exact H
   clear H
   have H:=H1
   clear H1
   obtain rfl:=sI H
   go_enter Try.func38,Try.ntmps38
   try go_wp2_with (first | ((with_reducible refine gd_ 3 ?_);refine be_ 3 #[.int .i64 a1_0,.int .i64 a1_1] 49 ?_;intro gb672 hg w12 hbox hb;have n0_:=aM (below_step (z1_ HB.out) hb);have n1_:=aM (hbox);have n2_:=aM ((z8_ HB.out:w.heap.size≤gb672));have n3_:=aM ((z8_ HB.out:w.heap.size≤gb672));clear HB;have HB:=n0_;have BK672:=n1_;have GW672:=n2_;have GE672:=n3_;clear n0_ n1_ n2_ n3_;clear hb hbox hg))
   have n0_:=aM (blk_drew BK672.out)
   have n1_:=aM (below_drew1 HB.out)
   clear BK672
   clear HB
   have BK672:=n0_
   have HB:=n1_
   clear n0_ n1_
   refine start_ (n:=16) (S:=fun w'=>w'.cell? ⟨gb672,0,none⟩=some (.int .i64 a1_0)∧w'.cell? ⟨gb672,1,none⟩=some (.int .i64 a1_1)) (ds:=[]) Y8.q0 (by kernel_rfl) rfl rfl (cc2_ BK672.out) (fun hHeld=>?_);refine with_tabW Y8.tab1 Y8.bits1 (fun HT_ HW_=>?_)
   generalize w12.drew=w13 at BK672 HB hHeld ⊢
   refine pu_ 0 5 Y8.q1 HT_.out ?_
   refine o1_ 1 6 Y8.q2 HT_.out (fun K hK=>?_)
   refine gs_ Try.func42 #[.slice A0 l0.length c0] ?_
   with_reducible refine (Y1.calls k _ _ l0 true _ ?s1 ?s2 A3.out).mono ?_
   (case s1=>repeat (first | exact (Kd.C_below HR0.out HB.out) | (with_reducible refine Kd.C_alloc ?_ _) | (with_reducible refine Kd.C_drewN ?_ _) | (with_reducible refine Kd.C_drew ?_)))
   (case s2=>exact HC0.out)
   rintro e w14 ⟨rfl,hb⟩
   refine ⟨_,rfl,?_⟩
   have n0_:=aM (blkB_ BK672.out hb)
   have n1_:=aM (below_step (z4_ HB.out GE672.out) hb)
   clear BK672
   clear HB
   have BK672:=n0_
   have HB:=n1_
   clear n0_ n1_
   (try clear hb)
   refine hK.out _ _ (cc2_ BK672.out) (fun hHeld=>?_)
   clear hK K
   refine nm_ 6 ?_
   refine pu_ 2 7 Y8.q3 HT_.out ?_
   refine tk2_ 3 8 Y8.q4 HT_.out HW_.out hHeld ?_
   refine o1_ 4 9 Y8.q5 HT_.out (fun K hK=>?_)
   refine gs_ Try.func83 #[.agg #[.int .i64 a1_0,.int .i64 a1_1]] ?_
   with_reducible refine (Y57.calls a1_0 a1_1 false _ A5.out).mono ?_
   rintro e w15 ⟨rfl,hb⟩
   refine ⟨_,rfl,?_⟩
   have n0_:=aM (blkB_ BK672.out hb)
   have n1_:=aM (below_step (z4_ HB.out GE672.out) hb)
   clear BK672
   clear HB
   have BK672:=n0_
   have HB:=n1_
   clear n0_ n1_
   (try clear hb)
   refine hK.out _ _ (cc2_ BK672.out) (fun hHeld=>?_)
   clear hK K
   refine nm_ 9 ?_
   refine pu_ 5 10 Y8.q6 HT_.out ?_
   refine pu_ 6 11 Y8.q7 HT_.out ?_
   refine pn_ 7 12 Y8.q8 HT_.out ?_
   refine pn_ 8 13 Y8.q15 HT_.out ?_
   refine pn_ 9 14 Y8.q16 HT_.out ?_
   refine pn_ 10 15 Y8.q9 HT_.out ?_
   refine pn_ 11 16 Y8.q10 HT_.out ?_
   refine pn_ 12 17 Y8.q11 HT_.out ?_
   refine pn_ 13 18 Y8.q12 HT_.out ?_
   refine pu_ 14 19 Y8.q13 HT_.out ?_
   refine pu_ 15 4 Y8.q14 HT_.out ?_
   refine done_ (done_of HT_.out (by kernel_rfl)) ?_
   try go_wp2
   go_ret
   exact ⟨z5_,z4_ HB.out GE672.out⟩
 ·replace c4:=Bool.eq_false_iff.mpr c4
  subst c4
  have H1:(some false)=some r:=by rw [if_neg (show ¬ (false=true) by decide)] at H;exact H
  clear H
  have H:=H1
  clear H1
  obtain rfl:=sI H
  go_enter Try.func38,Try.ntmps38
  try go_wp2_with (first | ((with_reducible refine gd_ 3 ?_);refine be_ 3 #[.int .i64 a1_0,.int .i64 a1_1] 49 ?_;intro gb672 hg w16 hbox hb;have n0_:=aM (below_step (z1_ HB.out) hb);have n1_:=aM (hbox);have n2_:=aM ((z8_ HB.out:w.heap.size≤gb672));have n3_:=aM ((z8_ HB.out:w.heap.size≤gb672));clear HB;have HB:=n0_;have BK672:=n1_;have GW672:=n2_;have GE672:=n3_;clear n0_ n1_ n2_ n3_;clear hb hbox hg))
  have n0_:=aM (blk_drew BK672.out)
  have n1_:=aM (below_drew1 HB.out)
  clear BK672
  clear HB
  have BK672:=n0_
  have HB:=n1_
  clear n0_ n1_
  refine start_ (n:=16) (S:=fun w'=>True) (ds:=[]) Y8.q0 (by kernel_rfl) rfl rfl trivial (fun hHeld=>?_);refine with_tabW Y8.tab1 Y8.bits1 (fun HT_ HW_=>?_)
  generalize w16.drew=w17 at BK672 HB hHeld ⊢
  refine pu_ 0 5 Y8.q1 HT_.out ?_
  refine o1_ 1 6 Y8.q2 HT_.out (fun K hK=>?_)
  refine gs_ Try.func42 #[.slice A0 l0.length c0] ?_
  with_reducible refine (Y1.calls k _ _ l0 false _ ?s1 ?s2 A3.out).mono ?_
  (case s1=>repeat (first | exact (Kd.C_below HR0.out HB.out) | (with_reducible refine Kd.C_alloc ?_ _) | (with_reducible refine Kd.C_drewN ?_ _) | (with_reducible refine Kd.C_drew ?_)))
  (case s2=>exact HC0.out)
  rintro e w18 ⟨rfl,hb⟩
  refine ⟨_,rfl,?_⟩
  have n0_:=aM (blkB_ BK672.out hb)
  have n1_:=aM (below_step (z4_ HB.out GE672.out) hb)
  clear BK672
  clear HB
  have BK672:=n0_
  have HB:=n1_
  clear n0_ n1_
  (try clear hb)
  refine hK.out _ _ trivial (fun hHeld=>?_)
  clear hK K
  refine nm_ 6 ?_
  refine pu_ 2 7 Y8.q3 HT_.out ?_
  refine pn_ 3 8 Y8.q4 HT_.out ?_
  refine pn_ 4 9 Y8.q5 HT_.out ?_
  refine pu_ 5 10 Y8.q6 HT_.out ?_
  refine pu_ 6 11 Y8.q7 HT_.out ?_
  refine pn_ 7 12 Y8.q8 HT_.out ?_
  refine pn_ 8 13 Y8.q15 HT_.out ?_
  refine pn_ 9 14 Y8.q16 HT_.out ?_
  refine pn_ 10 15 Y8.q9 HT_.out ?_
  refine pn_ 11 16 Y8.q10 HT_.out ?_
  refine pn_ 12 17 Y8.q11 HT_.out ?_
  refine pn_ 13 18 Y8.q12 HT_.out ?_
  refine pu_ 14 19 Y8.q13 HT_.out ?_
  refine pu_ 15 4 Y8.q14 HT_.out ?_
  refine done_ (done_of HT_.out (by kernel_rfl)) ?_
  try go_wp2
  go_ret
  exact ⟨z5_,z4_ HB.out GE672.out⟩


/-! ### Y21: function 119 -/
mutual
def Y21.l0:Nat→ByteArray→Int→Int→Int→Option (Int × Int × Int)
 | 0,_,_,_,_=>none
 | k+1,x0,x1,x5,x6=>if x6<10 then (if x1≥(wrap64 ((x0.size:Int)-x6)) then (some (0,0,4)) else (if 0≤(wrap64 (x1+x6)) then (if (wrap64 (x1+x6))<(x0.size:Int) then (if x6=9 then (Y21.j1 k x0 x1 x5 x6 (IntKind.u64.wrap (bt x0 (wrap64 (x1+x6)))) (decide ((IntKind.u64.wrap (bt x0 (wrap64 (x1+x6))))>1))) else (Y21.j1 k x0 x1 x5 x6 (IntKind.u64.wrap (bt x0 (wrap64 (x1+x6)))) false)) else (none)) else (none))) else (some (0,0,3))
def Y21.j1:Nat→ByteArray→Int→Int→Int→Int→Bool→Option (Int × Int × Int)
 | 0,_,_,_,_,_,_=>none
 | k+1,x0,x1,x5,x6,x7,x38=>if x38=true then (some (0,0,3)) else (if 0≤(IntKind.u64.wrap (wrap64 (7*x6))) then (if x7<128 then (if x7=0 then (Y21.j2 k x1 (IntKind.u64.wrap (x5+(shl .u64 (Int.tmod x7 128) (IntKind.u64.wrap (wrap64 (7*x6)))))) x6 (decide (x6>0))) else (Y21.j2 k x1 (IntKind.u64.wrap (x5+(shl .u64 (Int.tmod x7 128) (IntKind.u64.wrap (wrap64 (7*x6)))))) x6 false)) else (Y21.l0 k x0 x1 (IntKind.u64.wrap (x5+(shl .u64 (Int.tmod x7 128) (IntKind.u64.wrap (wrap64 (7*x6)))))) (wrap64 (x6+1)))) else (none))
def Y21.j2:Nat→Int→Int→Int→Bool→Option (Int × Int × Int)
 | 0,_,_,_,_=>none
 | k+1,x1,x5,x6,x55=>if x55=true then (some (0,0,3)) else (if (Int.tmod x5 2)=1 then (some (wrap64 ((wrap64 (-(wrap64 (IntKind.u64.wrap (Int.tdiv x5 2)))))-1),wrap64 ((wrap64 (x1+x6))+1),0)) else (some (wrap64 (IntKind.u64.wrap (Int.tdiv x5 2)),wrap64 ((wrap64 (x1+x6))+1),0)))
end
def Y21.f (k:Nat) (a0:ByteArray) (a1:Int):Option (Int × Int × Int):=if (a0.size:Int)>8000 then (some (0,0,2)) else (if a1<0 then (some (0,0,1)) else (Y21.l0 k a0 a1 0 0))
theorem Y21.mono_l:∀ k,(∀ y0 y1 y2 y3,LeO (Y21.l0 k y0 y1 y2 y3) (Y21.l0 (k+1) y0 y1 y2 y3))∧(∀ y0 y1 y2 y3 y4 y5,LeO (Y21.j1 k y0 y1 y2 y3 y4 y5) (Y21.j1 (k+1) y0 y1 y2 y3 y4 y5))∧(∀ y0 y1 y2 y3,LeO (Y21.j2 k y0 y1 y2 y3) (Y21.j2 (k+1) y0 y1 y2 y3))
 | 0=>by refine ⟨?_,?_,?_⟩ <;> intros <;> exact LeO.none _
 | k+1=>by
  obtain ⟨ih0,ih1,ih2⟩:=Y21.mono_l k
  refine ⟨?_,?_,?_⟩
  ·intros
   unfold Y21.l0
   exact mO
  ·intros
   unfold Y21.j1
   exact mO
  ·intros
   unfold Y21.j2
   exact mO
theorem Y21.mono:∀ a0 a1 k,LeO (Y21.f k a0 a1) (Y21.f (k+1) a0 a1):=by
 intro a0 a1 k
 obtain ⟨ih0,ih1,ih2⟩:=Y21.mono_l k
 unfold Y21.f
 exact mO
theorem Y21.calls (k:Nat) (a0:ByteArray) (a1:Int) (r1:Int) (r2:Int) (r3:Int) (w:World) (h:Y21.f k a0 a1=some (r1,r2,r3)) :
  Calls Try.prog 119 #[.string a0,.int .i64 a1] w fun e w'=>e = .returned (.agg #[.int .i64 r1,.int .i64 r2,.int .i64 r3])∧Below w.heap.size w w':=by
 have hu130:=Try.underlying130
 have HB:=aM (Below.refl w.heap.size w)
 have H:(if (a0.size:Int)>8000 then (some (0,0,2)) else (if a1<0 then (some (0,0,1)) else (Y21.l0 k a0 a1 0 0)))=some (r1,r2,r3):=h
 clear h
 by_cases c3:(a0.size:Int)>8000
 ·rw [if_pos c3] at H
  have c3b0:decide (8000<(a0.size:Int))=true:=dE c3
  have c3b1:decide (8000<a0.size)=true:=dE (by omega)
  clear c3
  simp only [Option.some.injEq,Prod.mk.injEq] at H
  obtain ⟨rfl,rfl,rfl⟩:=H
  go_enter Try.func119,Try.ntmps119
  go_wp2_with (first | ((with_reducible refine gd_ 4 ?_);refine be_ 4 #[.int .i64 0,.int .i64 0,.int .i64 0] 130 ?_;intro gb676 hg w4 hbox hb;have n0_:=aM (below_step (z1_ HB.out) hb);have n1_:=aM (hbox);have n2_:=aM ((z8_ HB.out:w.heap.size≤gb676));have n3_:=aM ((z8_ HB.out:w.heap.size≤gb676));clear HB;have HB:=n0_;have BK676:=n1_;have GW676:=n2_;have GE676:=n3_;clear n0_ n1_ n2_ n3_;clear hb hbox hg;have ⟨hcz5_0,hcz5_1,hcz5_2,hfz5_0,hfz5_1,hfz5_2⟩:=cz3_ BK676.out))
  refine bodyPost_ret (results_cell_row rfl _ _ gb676 130 #[.int .i64 0,.int .i64 0,.int .i64 2] (0,0) _ rfl (z18_ BK676.out) Try.underlying130 rfl (by kernel_rfl)) rfl ?_
  exact ⟨z5_,z4_ HB.out GE676.out⟩
 ·rw [if_neg c3] at H
  have c3b0:decide (8000<(a0.size:Int))=false:=dF c3
  have c3b1:decide (8000<a0.size)=false:=dF (by omega)
  clear c3
  by_cases c6:a1<0
  ·rw [if_pos c6] at H
   have c6b0:decide (a1<0)=true:=dE c6
   clear c6
   simp only [Option.some.injEq,Prod.mk.injEq] at H
   obtain ⟨rfl,rfl,rfl⟩:=H
   go_enter Try.func119,Try.ntmps119
   go_wp2_with (first | ((with_reducible refine gd_ 4 ?_);refine be_ 4 #[.int .i64 0,.int .i64 0,.int .i64 0] 130 ?_;intro gb676 hg w7 hbox hb;have n0_:=aM (below_step (z1_ HB.out) hb);have n1_:=aM (hbox);have n2_:=aM ((z8_ HB.out:w.heap.size≤gb676));have n3_:=aM ((z8_ HB.out:w.heap.size≤gb676));clear HB;have HB:=n0_;have BK676:=n1_;have GW676:=n2_;have GE676:=n3_;clear n0_ n1_ n2_ n3_;clear hb hbox hg;have ⟨hcz8_0,hcz8_1,hcz8_2,hfz8_0,hfz8_1,hfz8_2⟩:=cz3_ BK676.out))
   refine bodyPost_ret (results_cell_row rfl _ _ gb676 130 #[.int .i64 0,.int .i64 0,.int .i64 1] (0,0) _ rfl (z18_ BK676.out) Try.underlying130 rfl (by kernel_rfl)) rfl ?_
   exact ⟨z5_,z4_ HB.out GE676.out⟩
  ·rw [if_neg c6] at H
   have c6b0:decide (a1<0)=false:=dF c6
   clear c6
   have H':=aM H
   clear H
   go_enter Try.func119,Try.ntmps119
   go_wp2_with (first | ((with_reducible refine gd_ 4 ?_);refine be_ 4 #[.int .i64 0,.int .i64 0,.int .i64 0] 130 ?_;intro gb676 hg w9 hbox hb;have n0_:=aM (below_step (z1_ HB.out) hb);have n1_:=aM (hbox);have n2_:=aM ((z8_ HB.out:w.heap.size≤gb676));have n3_:=aM ((z8_ HB.out:w.heap.size≤gb676));clear HB;have HB:=n0_;have BK676:=n1_;have GW676:=n2_;have GE676:=n3_;clear n0_ n1_ n2_ n3_;clear hb hbox hg))
   go_loopg [5,6] k (fun kq v5 v6 w'=>∃ (x5_1:Int) (x6_1:Int) (x677000_1:Int) (x677001_1:Int) (x677002_1:Int),v5 = .int .u64 x5_1∧v6 = .int .i64 x6_1∧Aside0 (Y21.l0 kq a0 a1 x5_1 x6_1=some (r1,r2,r3))∧Aside0 (kq≤k)∧Aside0 (w'.heap[gb676]? = some (.cells #[.int .i64 x677000_1,.int .i64 x677001_1,.int .i64 x677002_1] 130 (0,0)))∧Aside0 (Below w.heap.size w w'))
   case atStart=>exact ⟨(0),(0),(0),(0),(0),(z3_),(z3_),H',⟨Nat.le_refl _⟩,⟨z2_ BK676.out⟩,⟨z4_ HB.out GE676.out⟩⟩
   case round =>
    clear H'
    try clear c1
    try clear p2
    try clear c3
    try clear c3b0
    try clear c3b1
    try clear c6
    try clear c6b0
    try clear hcz5_0
    try clear hcz5_1
    try clear hcz5_2
    try clear hcz8_0
    try clear hcz8_1
    try clear hcz8_2
    try clear hfz5_0
    try clear hfz5_1
    try clear hfz5_2
    try clear hfz8_0
    try clear hfz8_1
    try clear hfz8_2
    obtain ⟨x5_1,x6_1,x677000_1,x677001_1,x677002_1,rfl,rfl,HA,HK1,BK676,HB⟩:=hrel
    cases gk with
    | zero=>exact absurd HA.out (by simp [Y21.l0])
    | succ k1 =>
     have H:=HA.out
     clear HA
     simp only [Y21.l0] at H
     by_cases c10:x6_1<10
     ·rw [if_pos c10] at H
      have c10b0:decide (x6_1<10)=true:=dE c10
      clear c10
      by_cases c11:a1≥(wrap64 ((a0.size:Int)-x6_1))
      ·rw [if_pos c11] at H
       have c11b0:decide ((wrap64 ((a0.size:Int)-x6_1))≤a1)=true:=dE c11
       clear c11
       simp only [Option.some.injEq,Prod.mk.injEq] at H
       obtain ⟨rfl,rfl,rfl⟩:=H
       have ⟨hcz12_0,hcz12_1,hcz12_2,hfz12_0,hfz12_1,hfz12_2⟩:=cz3_ BK676.out
       go_wp2
       refine bodyPost_ret (results_cell_row rfl _ _ gb676 130 #[.int .i64 0,.int .i64 0,.int .i64 4] (0,0) _ rfl (z18_ BK676.out) Try.underlying130 rfl (by kernel_rfl)) rfl ?_
       exact ⟨z5_,z4_ HB.out GE676.out⟩
      ·rw [if_neg c11] at H
       have c11b0:decide ((wrap64 ((a0.size:Int)-x6_1))≤a1)=false:=dF c11
       clear c11
       obtain ⟨ji13,hji13⟩:∃ j_:Int,(wrap64 (a1+x6_1))=j_:=⟨_,rfl⟩
       replace H:(if 0≤(ji13) then (if (ji13)<(a0.size:Int) then (if x6_1=9 then (Y21.j1 k1 a0 a1 x5_1 x6_1 (IntKind.u64.wrap (bt a0 (ji13))) (decide ((IntKind.u64.wrap (bt a0 (ji13)))>1))) else (Y21.j1 k1 a0 a1 x5_1 x6_1 (IntKind.u64.wrap (bt a0 (ji13))) false)) else (none)) else (none))=some (r1,r2,r3):=by first | (rw [hji13] at H;exact H) | (simp only [hji13] at H ⊢;exact H)
       have hji13w:(IntKind.i64.wrap (a1+x6_1))=ji13:=(i64_w _).trans hji13
       by_cases c14:0≤(ji13)
       ·rw [if_pos c14] at H
        have c14b0:decide (0≤(ji13))=true:=dE c14
        clear c14
        by_cases c15:(ji13)<(a0.size:Int)
        ·rw [if_pos c15] at H
         have c15b0:decide ((ji13)<(a0.size:Int))=true:=dE c15
         clear c15
         have HC17:=aM H
         clear H
         have p16:0≤((ji13):Int):=dT (z7_)
         have q16:(ji13)<(a0.size:Int):=dT (z7_)
         have hx16:=bt_at a0 (ji13)
         replace p16:=eq_true p16
         replace q16:=eq_true q16
         go_upto_region 12 with (fail)
         go_cut [38] (fun v38 wc=>∃ (kq:Nat) (x38_16:Bool),v38 = .bool x38_16∧Aside0 (Y21.j1 kq a0 a1 x5_1 x6_1 (IntKind.u64.wrap (bt a0 (ji13))) x38_16=some (r1,r2,r3))∧Aside0 (kq≤k1)∧Aside0 (wc.heap[gb676]? = some (.cells #[.int .i64 x677000_1,.int .i64 x677001_1,.int .i64 x677002_1] 130 (0,0)))∧Aside0 (Below w.heap.size w wc))
         case first =>
          have H:=HC17.out
          clear HC17
          by_cases c18:x6_1=9
          ·rw [if_pos c18] at H
           have c18b0:(x6_1 == 9)=true:=beq_iff_eq.mpr c18
           have c18b1:(x6_1 != 9)=false:=bne_eq_false_iff_eq.mpr c18
           clear c18
           (first | rw [c18b0] | (simp only [i64_w,i32_w];rw [c18b0]) | skip)
           have H':=aM H
           clear H
           go_wp2
           go_meet
           case rel=>exact ⟨_,(decide ((IntKind.u64.wrap (bt a0 (ji13)))>1)),(by first | rfl | (simp;done) | (simp only [← hji13] <;> (first | rfl | simp)) | (simp [*];done)),H',⟨z16_ HK1.out⟩,⟨z2_ BK676.out⟩,⟨z4_ HB.out GE676.out⟩⟩
          ·rw [if_neg c18] at H
           have c18b0:(x6_1 == 9)=false:=beq_eq_false_iff_ne.mpr c18
           have c18b1:(x6_1 != 9)=true:=bne_iff_ne.mpr c18
           (first | rw [c18b0] | (simp only [i64_w,i32_w];rw [c18b0]) | skip)
           have H':=aM H
           clear H
           go_wp2
           go_meet
           case rel=>exact ⟨_,(false),(z3_),H',⟨z16_ HK1.out⟩,⟨z2_ BK676.out⟩,⟨z4_ HB.out GE676.out⟩⟩
         case rest =>
          clear HC17
          try clear c1
          try clear p1
          try clear q1
          try clear hx1
          try clear p2
          try clear c3
          try clear c3b0
          try clear c3b1
          try clear c6
          try clear c6b0
          try clear p6
          try clear c10
          try clear c10b0
          try clear c11
          try clear c11b0
          try clear c14
          try clear c14b0
          try clear c15
          try clear c15b0
          try clear p16
          try clear q16
          try clear hx16
          try clear c18
          try clear c18b0
          try clear c18b1
          try clear hcz12_0
          try clear hcz12_1
          try clear hcz12_2
          try clear hcz5_0
          try clear hcz5_1
          try clear hcz5_2
          try clear hcz8_0
          try clear hcz8_1
          try clear hcz8_2
          try clear hfz12_0
          try clear hfz12_1
          try clear hfz12_2
          try clear hfz5_0
          try clear hfz5_1
          try clear hfz5_2
          try clear hfz8_0
          try clear hfz8_1
          try clear hfz8_2
          try clear p16
          try clear p2
          try clear q16
          obtain ⟨kq,x38_16,rfl,HA,HJ16,BK676,HB⟩:=hcut
          cases kq with
          | zero=>exact absurd HA.out (by simp [Y21.j1])
          | succ kj16 =>
           have H:=HA.out
           clear HA
           simp only [Y21.j1] at H
           by_cases c19:x38_16=true
           ·subst c19
            have H1:(some (0,0,3))=some (r1,r2,r3):=by rw [if_pos rfl] at H;exact H
            clear H
            have H:=H1
            clear H1
            simp only [Option.some.injEq,Prod.mk.injEq] at H
            obtain ⟨rfl,rfl,rfl⟩:=H
            have ⟨hcz20_0,hcz20_1,hcz20_2,hfz20_0,hfz20_1,hfz20_2⟩:=cz3_ BK676.out
            go_wp2
            (try subst hji13)
            refine bodyPost_ret (results_cell_row rfl _ _ gb676 130 #[.int .i64 0,.int .i64 0,.int .i64 3] (0,0) _ rfl (z18_ BK676.out) Try.underlying130 rfl (by kernel_rfl)) rfl ?_
            exact ⟨by first | rfl | (simp [errW_none,errW_some] <;> rfl) | (simp only [← hji13];first | rfl | (simp [errW_none,errW_some] <;> rfl)) | (simp [*,errW_none,errW_some] <;> rfl),z4_ HB.out GE676.out⟩
           ·replace c19:=Bool.eq_false_iff.mpr c19
            subst c19
            have H1:(if 0≤(IntKind.u64.wrap (wrap64 (7*x6_1))) then (if (IntKind.u64.wrap (bt a0 (ji13)))<128 then (if (IntKind.u64.wrap (bt a0 (ji13)))=0 then (Y21.j2 kj16 a1 (IntKind.u64.wrap (x5_1+(shl .u64 (Int.tmod (IntKind.u64.wrap (bt a0 (ji13))) 128) (IntKind.u64.wrap (wrap64 (7*x6_1)))))) x6_1 (decide (x6_1>0))) else (Y21.j2 kj16 a1 (IntKind.u64.wrap (x5_1+(shl .u64 (Int.tmod (IntKind.u64.wrap (bt a0 (ji13))) 128) (IntKind.u64.wrap (wrap64 (7*x6_1)))))) x6_1 false)) else (Y21.l0 kj16 a0 a1 (IntKind.u64.wrap (x5_1+(shl .u64 (Int.tmod (IntKind.u64.wrap (bt a0 (ji13))) 128) (IntKind.u64.wrap (wrap64 (7*x6_1)))))) (wrap64 (x6_1+1)))) else (none))=some (r1,r2,r3):=by rw [if_neg (show ¬ (false=true) by decide)] at H;exact H
            clear H
            have H:=H1
            clear H1
            obtain ⟨ji21,hji21⟩:∃ j_:Int,(IntKind.u64.wrap (wrap64 (7*x6_1)))=j_:=⟨_,rfl⟩
            replace H:(if 0≤(ji21) then (if (IntKind.u64.wrap (bt a0 (ji13)))<128 then (if (IntKind.u64.wrap (bt a0 (ji13)))=0 then (Y21.j2 kj16 a1 (IntKind.u64.wrap (x5_1+(shl .u64 (Int.tmod (IntKind.u64.wrap (bt a0 (ji13))) 128) (ji21)))) x6_1 (decide (x6_1>0))) else (Y21.j2 kj16 a1 (IntKind.u64.wrap (x5_1+(shl .u64 (Int.tmod (IntKind.u64.wrap (bt a0 (ji13))) 128) (ji21)))) x6_1 false)) else (Y21.l0 kj16 a0 a1 (IntKind.u64.wrap (x5_1+(shl .u64 (Int.tmod (IntKind.u64.wrap (bt a0 (ji13))) 128) (ji21)))) (wrap64 (x6_1+1)))) else (none))=some (r1,r2,r3):=by first | (rw [hji21] at H;exact H) | (simp only [hji21] at H ⊢;exact H)
            by_cases c22:0≤(ji21)
            ·rw [if_pos c22] at H
             have c22b0:=eq_true c22
             have c22b1:decide (0≤(ji21))=true:=dE c22
             clear c22
             obtain ⟨ji23,hji23⟩:∃ j_:Int,(shl .u64 (Int.tmod (IntKind.u64.wrap (bt a0 (ji13))) 128) (ji21))=j_:=⟨_,rfl⟩
             replace H:(if (IntKind.u64.wrap (bt a0 (ji13)))<128 then (if (IntKind.u64.wrap (bt a0 (ji13)))=0 then (Y21.j2 kj16 a1 (IntKind.u64.wrap (x5_1+(ji23))) x6_1 (decide (x6_1>0))) else (Y21.j2 kj16 a1 (IntKind.u64.wrap (x5_1+(ji23))) x6_1 false)) else (Y21.l0 kj16 a0 a1 (IntKind.u64.wrap (x5_1+(ji23))) (wrap64 (x6_1+1))))=some (r1,r2,r3):=by first | (rw [hji23] at H;exact H) | (simp only [hji23] at H ⊢;exact H)
             have hji23_:(IntKind.u64.wrap ((Int.tmod (IntKind.u64.wrap (bt a0 (ji13))) 128)*2 ^ min (ji21).toNat 64))=ji23:=hji23
             have hji23z:(ji21)≤64→(IntKind.u64.wrap ((Int.tmod (IntKind.u64.wrap (bt a0 (ji13))) 128)*2 ^ (ji21).toNat))=ji23:=shl_small hji23
             by_cases c24:(IntKind.u64.wrap (bt a0 (ji13)))<128
             ·rw [if_pos c24] at H
              have c24b0:decide ((IntKind.u64.wrap (bt a0 (ji13)))<128)=true:=dE c24
              clear c24
              have HC25:=aM H
              clear H
              go_upto_region 16 with (fail)
              go_cut [55] (fun v55 wc=>∃ (kq:Nat) (x55_24:Bool),v55 = .bool x55_24∧Aside0 (Y21.j2 kq a1 (IntKind.u64.wrap (x5_1+(ji23))) x6_1 x55_24=some (r1,r2,r3))∧Aside0 (kq≤kj16)∧Aside0 (wc.heap[gb676]? = some (.cells #[.int .i64 x677000_1,.int .i64 x677001_1,.int .i64 x677002_1] 130 (0,0)))∧Aside0 (Below w.heap.size w wc))
              case first =>
               have H:=HC25.out
               clear HC25
               by_cases c26:(IntKind.u64.wrap (bt a0 (ji13)))=0
               ·rw [if_pos c26] at H
                have c26b0:((IntKind.u64.wrap (bt a0 (ji13))) == 0)=true:=beq_iff_eq.mpr c26
                have c26b1:((IntKind.u64.wrap (bt a0 (ji13))) != 0)=false:=bne_eq_false_iff_eq.mpr c26
                clear c26
                (first | rw [c26b0] | (simp only [i64_w,i32_w];rw [c26b0]) | skip)
                have H':=aM H
                clear H
                go_wp2
                go_meet
                case rel=>exact ⟨_,(decide (x6_1>0)),(z3_),H',⟨z41_ HK1.out HJ16.out⟩,⟨z2_ BK676.out⟩,⟨z4_ HB.out GE676.out⟩⟩
               ·rw [if_neg c26] at H
                have c26b0:((IntKind.u64.wrap (bt a0 (ji13))) == 0)=false:=beq_eq_false_iff_ne.mpr c26
                have c26b1:((IntKind.u64.wrap (bt a0 (ji13))) != 0)=true:=bne_iff_ne.mpr c26
                (first | rw [c26b0] | (simp only [i64_w,i32_w];rw [c26b0]) | skip)
                have H':=aM H
                clear H
                go_wp2
                go_meet
                case rel=>exact ⟨_,(false),(z3_),H',⟨z41_ HK1.out HJ16.out⟩,⟨z2_ BK676.out⟩,⟨z4_ HB.out GE676.out⟩⟩
              case rest =>
               clear HC25
               try clear c1
               try clear p1
               try clear q1
               try clear hx1
               try clear c2
               try clear p2
               try clear c3
               try clear c3b0
               try clear c3b1
               try clear c6
               try clear c6b0
               try clear p6
               try clear c10
               try clear c10b0
               try clear c11
               try clear c11b0
               try clear c14
               try clear c14b0
               try clear c15
               try clear c15b0
               try clear p16
               try clear q16
               try clear hx16
               try clear c18
               try clear c18b0
               try clear c18b1
               try clear c19
               try clear c22
               try clear c22b0
               try clear c22b1
               try clear c24
               try clear c24b0
               try clear c26
               try clear c26b0
               try clear c26b1
               try clear hcz12_0
               try clear hcz12_1
               try clear hcz12_2
               try clear hcz20_0
               try clear hcz20_1
               try clear hcz20_2
               try clear hcz5_0
               try clear hcz5_1
               try clear hcz5_2
               try clear hcz8_0
               try clear hcz8_1
               try clear hcz8_2
               try clear hfz12_0
               try clear hfz12_1
               try clear hfz12_2
               try clear hfz20_0
               try clear hfz20_1
               try clear hfz20_2
               try clear hfz5_0
               try clear hfz5_1
               try clear hfz5_2
               try clear hfz8_0
               try clear hfz8_1
               try clear hfz8_2
               try clear p1
               try clear p16
               try clear p2
               try clear p6
               try clear q1
               try clear q16
               obtain ⟨kq,x55_24,rfl,HA,HJ24,BK676,HB⟩:=hcut
               cases kq with
               | zero=>exact absurd HA.out (by simp [Y21.j2])
               | succ kj24 =>
                have H:=HA.out
                clear HA
                simp only [Y21.j2] at H
                by_cases c27:x55_24=true
                ·subst c27
                 have H1:(some (0,0,3))=some (r1,r2,r3):=by rw [if_pos rfl] at H;exact H
                 clear H
                 have H:=H1
                 clear H1
                 simp only [Option.some.injEq,Prod.mk.injEq] at H
                 obtain ⟨rfl,rfl,rfl⟩:=H
                 have ⟨hcz28_0,hcz28_1,hcz28_2,hfz28_0,hfz28_1,hfz28_2⟩:=cz3_ BK676.out
                 go_wp2
                 (try subst hji23)
                 (try subst hji21)
                 (try subst hji13)
                 refine bodyPost_ret (results_cell_row rfl _ _ gb676 130 #[.int .i64 0,.int .i64 0,.int .i64 3] (0,0) _ rfl (z18_ BK676.out) Try.underlying130 rfl (by kernel_rfl)) rfl ?_
                 exact ⟨z51_,z4_ HB.out GE676.out⟩
                ·replace c27:=Bool.eq_false_iff.mpr c27
                 subst c27
                 have H1:(if (Int.tmod (IntKind.u64.wrap (x5_1+(ji23))) 2)=1 then (some (wrap64 ((wrap64 (-(wrap64 (IntKind.u64.wrap (Int.tdiv (IntKind.u64.wrap (x5_1+(ji23))) 2)))))-1),wrap64 ((wrap64 (a1+x6_1))+1),0)) else (some (wrap64 (IntKind.u64.wrap (Int.tdiv (IntKind.u64.wrap (x5_1+(ji23))) 2)),wrap64 ((wrap64 (a1+x6_1))+1),0)))=some (r1,r2,r3):=by rw [if_neg (show ¬ (false=true) by decide)] at H;exact H
                 clear H
                 have H:=H1
                 clear H1
                 by_cases c29:(Int.tmod (IntKind.u64.wrap (x5_1+(ji23))) 2)=1
                 ·rw [if_pos c29] at H
                  have c29b0:((Int.tmod (IntKind.u64.wrap (x5_1+(ji23))) 2) == 1)=true:=beq_iff_eq.mpr c29
                  have c29b1:((Int.tmod (IntKind.u64.wrap (x5_1+(ji23))) 2) != 1)=false:=bne_eq_false_iff_eq.mpr c29
                  clear c29
                  simp only [Option.some.injEq,Prod.mk.injEq] at H
                  obtain ⟨rfl,rfl,rfl⟩:=H
                  have ⟨hcz30_0,hcz30_1,hcz30_2,hfz30_0,hfz30_1,hfz30_2⟩:=cz3_ BK676.out
                  go_wp2
                  (try subst hji21)
                  (try subst hji13)
                  refine bodyPost_ret (results_cell_row rfl _ _ gb676 130 #[.int .i64 (wrap64 ((wrap64 (-(wrap64 (IntKind.u64.wrap (Int.tdiv (IntKind.u64.wrap (x5_1+(ji23))) 2)))))-1)),.int .i64 (wrap64 ((wrap64 (a1+x6_1))+1)),.int .i64 0] (0,0) _ rfl (z18_ BK676.out) Try.underlying130 rfl (by kernel_rfl)) rfl ?_
                  exact ⟨z51_,z4_ HB.out GE676.out⟩
                 ·rw [if_neg c29] at H
                  have c29b0:((Int.tmod (IntKind.u64.wrap (x5_1+(ji23))) 2) == 1)=false:=beq_eq_false_iff_ne.mpr c29
                  have c29b1:((Int.tmod (IntKind.u64.wrap (x5_1+(ji23))) 2) != 1)=true:=bne_iff_ne.mpr c29
                  simp only [Option.some.injEq,Prod.mk.injEq] at H
                  obtain ⟨rfl,rfl,rfl⟩:=H
                  have ⟨hcz31_0,hcz31_1,hcz31_2,hfz31_0,hfz31_1,hfz31_2⟩:=cz3_ BK676.out
                  go_wp2
                  (try subst hji21)
                  (try subst hji13)
                  refine bodyPost_ret (results_cell_row rfl _ _ gb676 130 #[.int .i64 (wrap64 (IntKind.u64.wrap (Int.tdiv (IntKind.u64.wrap (x5_1+(ji23))) 2))),.int .i64 (wrap64 ((wrap64 (a1+x6_1))+1)),.int .i64 0] (0,0) _ rfl (z18_ BK676.out) Try.underlying130 rfl (by kernel_rfl)) rfl ?_
                  exact ⟨z51_,z4_ HB.out GE676.out⟩
             ·rw [if_neg c24] at H
              have c24b0:decide ((IntKind.u64.wrap (bt a0 (ji13)))<128)=false:=dF c24
              clear c24
              have H':=aM H
              clear H
              go_wp2
              go_roundg kj16
              case measure=>have:=HK1.out;have:=HJ16.out;omega
              case rel=>exact ⟨(IntKind.u64.wrap (x5_1+(ji23))),(wrap64 (x6_1+1)),(x677000_1),(x677001_1),(x677002_1),(by first | rfl | (simp;done) | (simp only [← hji23] <;> (first | rfl | simp)) | (simp [*];done)),(z3_),H',⟨by have:=HK1.out;have:=HJ16.out;omega⟩,⟨z2_ BK676.out⟩,⟨z4_ HB.out GE676.out⟩⟩
            ·rw [if_neg c22] at H
             exact nO H
        ·rw [if_neg c15] at H
         exact nO H
       ·rw [if_neg c14] at H
        exact nO H
     ·rw [if_neg c10] at H
      have c10b0:decide (x6_1<10)=false:=dF c10
      clear c10
      simp only [Option.some.injEq,Prod.mk.injEq] at H
      obtain ⟨rfl,rfl,rfl⟩:=H
      have ⟨hcz32_0,hcz32_1,hcz32_2,hfz32_0,hfz32_1,hfz32_2⟩:=cz3_ BK676.out
      go_wp2
      refine bodyPost_ret (results_cell_row rfl _ _ gb676 130 #[.int .i64 0,.int .i64 0,.int .i64 3] (0,0) _ rfl (z18_ BK676.out) Try.underlying130 rfl (by kernel_rfl)) rfl ?_
      exact ⟨z5_,z4_ HB.out GE676.out⟩


/-- A state of type 99 at block g of W; what its slices lead to came in by w0. -/
def IsS99 (w0 W:World) (g:Nat) (f0:ByteArray) (f1:Int) (f2:Bool):Prop:=W.heap[g]? = some (.cells #[.string f0,.int .i64 f1,.bool f2] 99 (0,0))∧w0.heap.size≤g
theorem IsS99.grown {w0 W:World} {g:Nat} {f0:ByteArray} {f1:Int} {f2:Bool} {W1:World} {row:Option Nat} (h:IsS99 w0 W g f0 f1 f2) (hw:W.grownBy W1 row) (hne:some g≠row):IsS99 w0 W1 g f0 f1 f2:=by
 obtain ⟨hb,hg⟩:=h
 exact ⟨blk_grown hb hw hne,hg⟩
theorem IsS99.kept {w0 W:World} {g:Nat} {f0:ByteArray} {f1:Int} {f2:Bool} {W1:World} {S:Nat→Prop} (h:IsS99 w0 W g f0 f1 f2) (hk:Kept W W1 S) (hne:¬ S g):IsS99 w0 W1 g f0 f1 f2:=by
 obtain ⟨hb,hg⟩:=h
 exact ⟨blk_kept hb hk hne,hg⟩
theorem IsS99.below {w0 W:World} {g:Nat} {f0:ByteArray} {f1:Int} {f2:Bool} {W1:World} (h:IsS99 w0 W g f0 f1 f2) (hw:Below W.heap.size W W1):IsS99 w0 W1 g f0 f1 f2:=h.grown (grown_of_below hw none) (by simp)
theorem IsS99.alloc {w0 W:World} {g:Nat} {f0:ByteArray} {f1:Int} {f2:Bool} (h:IsS99 w0 W g f0 f1 f2) (o:Obj):IsS99 w0 (W.alloc o) g f0 f1 f2:=h.below (below_alloc (Below.refl _ _) o)
theorem IsS99.drewN {w0 W:World} {g:Nat} {f0:ByteArray} {f1:Int} {f2:Bool} (h:IsS99 w0 W g f0 f1 f2) (m:Nat):IsS99 w0 (W.drewN m) g f0 f1 f2:=h
theorem IsS99.drew {w0 W:World} {g:Nat} {f0:ByteArray} {f1:Int} {f2:Bool} (h:IsS99 w0 W g f0 f1 f2):IsS99 w0 W.drew g f0 f1 f2:=h
theorem IsS99.at_ {w0 W:World} {g:Nat} {f0:ByteArray} {f1:Int} {f2:Bool} {w':World} {m:Nat} (hq:W.drewN m=w') (h:IsS99 w0 W g f0 f1 f2):IsS99 w0 w' g f0 f1 f2:=by subst hq;exact IsS99.drewN h m
theorem IsS99.apart {w0 W:World} {g:Nat} {f0:ByteArray} {f1:Int} {f2:Bool} {α:Type} {d:Kd α} {e:Nat} {base:Nat} {ok:Nat→Prop} {v:Value} {xs:List α} (h:IsS99 w0 W g f0 f1 f2) (ho:d.R e W base ok v xs) (ht:∀ q,q ∈ e :: d.E→q≠99):d.R e W base (fun k=>ok k∧k≠g) v xs:=by
 obtain ⟨hb,hg⟩:=h
 exact Kd.R_types ho hb ht
theorem IsS99.own_ne {w0 W:World} {g:Nat} {f0:ByteArray} {f1:Int} {f2:Bool} {α:Type} {d:Kd α} {e:Nat} {base:Nat} {ok:Nat→Prop} {v:Value} {xs:List α} (h:IsS99 w0 W g f0 f1 f2) (ho:d.R e W base ok v xs) (ht:e≠99):some g≠v.ownBlock:=by
 obtain ⟨hb,hg⟩:=h
 exact Kd.R_ne ho hb ht
theorem IsS99.lt {w0 W:World} {g:Nat} {f0:ByteArray} {f1:Int} {f2:Bool} (h:IsS99 w0 W g f0 f1 f2):g<W.heap.size:=by
 obtain ⟨hb,hg⟩:=h
 exact blk_lt hb
theorem IsS99.ge {w0 W:World} {g:Nat} {f0:ByteArray} {f1:Int} {f2:Bool} (h:IsS99 w0 W g f0 f1 f2):w0.heap.size≤g:=by
 obtain ⟨hb,hg⟩:=h
 exact hg
theorem IsS99.far {w0 W:World} {g:Nat} {f0:ByteArray} {f1:Int} {f2:Bool} {p:Addr} (h:IsS99 w0 W g f0 f1 f2) (hne:g≠p.block) (u:Value):IsS99 w0 (W.setCell p u) g f0 f1 f2:=by
 obtain ⟨hb,hg⟩:=h
 exact ⟨blk_far hb hne u,hg⟩
theorem cellS99_0 {W:World} {g:Nat} {f0:ByteArray} {f1:Int} {f2:Bool} (h:W.heap[g]? = some (.cells #[.string f0,.int .i64 f1,.bool f2] 99 (0,0))):W.cell? ⟨g,0,none⟩=some (.string f0):=(blk_cell h 0).trans rfl
theorem IsS99.set_0 {w0 W:World} {g:Nat} {f0:ByteArray} {f1:Int} {f2:Bool} (h:IsS99 w0 W g f0 f1 f2) (x:ByteArray):IsS99 w0 (W.setCell ⟨g,0,none⟩ (.string x)) g x f1 f2:=by
 obtain ⟨hb,hg⟩:=h
 exact ⟨by simpa using blk_set hb 0 (.string x),hg⟩
theorem cellS99_1 {W:World} {g:Nat} {f0:ByteArray} {f1:Int} {f2:Bool} (h:W.heap[g]? = some (.cells #[.string f0,.int .i64 f1,.bool f2] 99 (0,0))):W.cell? ⟨g,1,none⟩=some (.int .i64 f1):=(blk_cell h 1).trans rfl
theorem IsS99.set_1 {w0 W:World} {g:Nat} {f0:ByteArray} {f1:Int} {f2:Bool} (h:IsS99 w0 W g f0 f1 f2) (x:Int):IsS99 w0 (W.setCell ⟨g,1,none⟩ (.int .i64 x)) g f0 x f2:=by
 obtain ⟨hb,hg⟩:=h
 exact ⟨by simpa using blk_set hb 1 (.int .i64 x),hg⟩
theorem cellS99_2 {W:World} {g:Nat} {f0:ByteArray} {f1:Int} {f2:Bool} (h:W.heap[g]? = some (.cells #[.string f0,.int .i64 f1,.bool f2] 99 (0,0))):W.cell? ⟨g,2,none⟩=some (.bool f2):=(blk_cell h 2).trans rfl
theorem IsS99.set_2 {w0 W:World} {g:Nat} {f0:ByteArray} {f1:Int} {f2:Bool} (h:IsS99 w0 W g f0 f1 f2) (x:Bool):IsS99 w0 (W.setCell ⟨g,2,none⟩ (.bool x)) g f0 f1 x:=by
 obtain ⟨hb,hg⟩:=h
 exact ⟨by simpa using blk_set hb 2 (.bool x),hg⟩
/-! ### Y15: function 108 -/
def Y15.j0:Nat→Bool→ByteArray→Int→Bool→Int→Int→Int→Option (Int × ByteArray × Int × Bool)
 | 0,_,_,_,_,_,_,_=>none
 | k+1,x21,x1000,x1001,x1002,x681000,x681001,x681002=>if x21=true then (some (0,x1000,x1001,true)) else (some (x681000,x1000,x681001,x1002))
def Y15.f (k:Nat) (s0_0:ByteArray) (s0_1:Int) (s0_2:Bool):Option (Int × ByteArray × Int × Bool):=(Y21.f k s0_0 s0_1).bind fun bt677=>(if s0_2=true then (Y15.j0 k true s0_0 s0_1 s0_2 bt677.1 bt677.2.1 bt677.2.2) else (Y15.j0 k (bt677.2.2 != 0) s0_0 s0_1 s0_2 bt677.1 bt677.2.1 bt677.2.2))
theorem Y15.mono_l:∀ k,(∀ y0 y1 y2 y3 y4 y5 y6,LeO (Y15.j0 k y0 y1 y2 y3 y4 y5 y6) (Y15.j0 (k+1) y0 y1 y2 y3 y4 y5 y6))
 | 0=>by intros <;> exact LeO.none _
 | k+1=>by
  have ih0:=Y15.mono_l k
  have m0:=@Y21.mono
  ·intros
   unfold Y15.j0
   exact mO
theorem Y15.mono:∀ a0 a1 a2 k,LeO (Y15.f k a0 a1 a2) (Y15.f (k+1) a0 a1 a2):=by
 intro a0 a1 a2 k
 have m0:=@Y21.mono
 have ih0:=Y15.mono_l k
 unfold Y15.f
 exact mO
def Y15.T1:Bool × List (List Nat × List Nat):=(true,[([],[]),([0],[0]),([1],[1]),([2],[2]),([],[]),([4],[4]),([5],[5]),([6],[6]),([3,7],[3,7]),([],[]),([9,8,8,0,1,2,3,4,5,6,7,8,9],[8,9])])
def Y15.B1:List Nat:=[0,1,3,7,0,16,48,112,255,0,1023]
theorem Y15.tab1:rtab .any (opsOf Try.f108 1)=Y15.T1:=by kernel_rfl
theorem Y15.bits1:waitsOk Y15.T1.2 Y15.B1=true:=by kernel_rfl
theorem Y15.calls (k:Nat) (g:Nat) (s0_0:ByteArray) (s0_1:Int) (s0_2:Bool) (r1:Int) (r2:ByteArray) (r3:Int) (r4:Bool) (w0 w:World) (hI:IsS99 w0 w g s0_0 s0_1 s0_2) (hB:Below w0.heap.size w0 w) (h:Y15.f k s0_0 s0_1 s0_2=some (r1,r2,r3,r4)) :
  Calls Try.prog 108 #[.pointer (some ⟨g,0,none⟩)] w fun e w'=>e = .returned (.int .i64 r1)∧IsS99 w0 w' g r2 r3 r4∧Below w0.heap.size w0 w'∧KeepBut w w' g none:=by
 have hu130:=Try.underlying130
 have HI0:=aM hI
 have HK:=aM (KeepBut.refl w g none)
 have HL:=aM hB.size
 clear hI
 have HW0:=aM hB.size
 have HB:=aM hB
 clear hB
 have H:((Y21.f k s0_0 s0_1).bind fun bt677=>(if s0_2=true then (Y15.j0 k true s0_0 s0_1 s0_2 bt677.1 bt677.2.1 bt677.2.2) else (Y15.j0 k (bt677.2.2 != 0) s0_0 s0_1 s0_2 bt677.1 bt677.2.1 bt677.2.2)))=some (r1,r2,r3,r4):=h
 clear h
 replace H:=bS H
 obtain ⟨⟨t677,t678,t679⟩,A20,H⟩:=H
 replace H:(if s0_2=true then (Y15.j0 k true s0_0 s0_1 s0_2 t677 t678 t679) else (Y15.j0 k (t679 != 0) s0_0 s0_1 s0_2 t677 t678 t679))=some (r1,r2,r3,r4):=H
 have A2:=aM A20
 clear A20
 have HC3:=aM H
 clear H
 go_enter Try.func108,Try.ntmps108
 try go_wp2
 have n0_:=aM (IsS99.drew HI0.out)
 have n1_:=aM (keep_drew HK.out)
 have n2_:=aM (below_drew1 HB.out)
 clear HI0
 clear HK
 clear HB
 have HI0:=n0_
 have HK:=n1_
 have HB:=n2_
 clear n0_ n1_ n2_
 refine start_ (n:=11) (S:=fun w'=>w'.cell? ⟨g,0,none⟩=some (.string s0_0)∧w'.cell? ⟨g,1,none⟩=some (.int .i64 s0_1)∧w'.cell? ⟨g,2,none⟩=some (.bool s0_2)) (ds:=[]) #[O,O,O,O,O,O,O,O,O,O,O] (by kernel_rfl) rfl rfl (cc3_ (aM HI0.out.1).out) (fun hHeld=>?_);refine with_tabW Y15.tab1 Y15.bits1 (fun HT_ HW_=>?_)
 generalize w.drew=w4 at HI0 HK HB hHeld ⊢
 refine pu_ 0 4 #[I,O,O,O,O,O,O,O,O,O,O] HT_.out ?_
 refine pu_ 1 5 #[I,I,O,O,O,O,O,O,O,O,O] HT_.out ?_
 refine pu_ 2 6 #[I,I,I,O,O,O,O,O,O,O,O] HT_.out ?_
 refine pu_ 4 8 #[I,I,I,O,I,O,O,O,O,O,O] HT_.out ?_
 refine pu_ 5 9 #[I,I,I,O,I,I,O,O,O,O,O] HT_.out ?_
 refine pu_ 6 10 #[I,I,I,O,I,I,I,O,O,O,O] HT_.out ?_
 refine tk3_ 3 7 #[I,I,I,I,I,I,I,O,O,O,O] HT_.out HW_.out hHeld ?_
 refine tk3_ 7 11 #[I,I,I,I,I,I,I,I,O,O,O] HT_.out HW_.out hHeld ?_
 refine join_ (σ:=Nat) 1 #[I,I,I,I,I,I,I,I,I,I,O] (fun s_=>[(12,.agg #[.int .i64 t677,.int .i64 t678,.int .i64 t679]),(3,.pointer (some ⟨s_,0,none⟩))]) (fun s_ w'=>(w'.cell? ⟨g,0,none⟩=some (.string s0_0)∧w'.cell? ⟨g,1,none⟩=some (.int .i64 s0_1)∧w'.cell? ⟨g,2,none⟩=some (.bool s0_2))∧(w'.heap[s_]? = some (.cells #[.int .i64 0,.int .i64 0,.int .i64 0] 130 (0,0)))∧(w.heap.size≤s_)∧(w0.heap.size≤s_)∧(g≠s_)∧(s_≠g)∧(IsS99 w0 w' g s0_0 s0_1 s0_2)∧(KeepBut w w' g none)∧(Below w0.heap.size w0 w')) ?_ ?_
 rotate_left
 ·intro hCont
  refine o2_ 8 9 12 3 #[I,I,I,I,I,I,I,I,I,O,O] #[I,I,I,I,I,I,I,I,O,I,O] HT_.out (fun K hK=>?_) (fun K hK=>?_)
  ·skip
   refine gs_ Try.func119 #[.string s0_0,.int .i64 s0_1] ?_
   with_reducible refine (Y21.calls k s0_0 s0_1 t677 t678 t679 _ A2.out).mono ?_
   rintro e w5 ⟨rfl,hb⟩
   refine ⟨_,rfl,?_⟩
   have n0_:=aM (IsS99.below (z29_ HI0.out) hb)
   have n1_:=aM (KeepBut.trans (z6_ HK.out) (KeepBut.of_below hb g none) (.inl rfl))
   have n2_:=aM (below_step (z30_ HB.out HI0.out) hb)
   clear HI0
   clear HK
   clear HB
   have HI0:=n0_
   have HK:=n1_
   have HB:=n2_
   clear n0_ n1_ n2_
   (try clear hb)
   refine hK.out _ _ (cc3_ (aM HI0.out.1).out) (fun hHeld=>?_)
   clear hK K
   refine nm_ 12 ?_
   refine o1_ 9 3 #[I,I,I,I,I,I,I,I,I,I,O] HT_.out (fun K hK=>?_)
   refine bs_ 3 #[.int .i64 0,.int .i64 0,.int .i64 0] 130 ?_
   intro gb680 hg w6 hbox hb
   have n0_:=aM (IsS99.below (z29_ HI0.out) hb)
   have n1_:=aM (KeepBut.trans (z6_ HK.out) (KeepBut.of_below hb g none) (.inl rfl))
   have n2_:=aM (below_step (z30_ HB.out HI0.out) hb)
   have n3_:=aM (hbox)
   have n4_:=aM ((z19_ HK.out:w.heap.size≤gb680))
   have n5_:=aM ((Nat.le_trans HW0.out (z19_ HK.out:w.heap.size≤gb680):w0.heap.size≤gb680))
   have n6_:=aM ((by rw [hg];exact Nat.ne_of_lt (IsS99.lt (show IsS99 w0 _ g s0_0 s0_1 s0_2 from by repeat (first | (with_reducible first | exact HI0.out | apply IsS99.alloc | apply IsS99.drewN | apply IsS99.drew | apply IsS99.set_0 | apply IsS99.set_1 | apply IsS99.set_2) | exact HI0.out))):g≠gb680))
   have n7_:=aM ((by rw [hg];exact Nat.ne_of_gt (IsS99.lt (show IsS99 w0 _ g s0_0 s0_1 s0_2 from by repeat (first | (with_reducible first | exact HI0.out | apply IsS99.alloc | apply IsS99.drewN | apply IsS99.drew | apply IsS99.set_0 | apply IsS99.set_1 | apply IsS99.set_2) | exact HI0.out))):gb680≠g))
   clear HI0
   clear HK
   clear HB
   have HI0:=n0_
   have HK:=n1_
   have HB:=n2_
   have BK680:=n3_
   have GW680:=n4_
   have GE680:=n5_
   have NB0_680:=n6_
   have NB680_0:=n7_
   clear n0_ n1_ n2_ n3_ n4_ n5_ n6_ n7_
   clear hb hbox hg
   refine hK.out _ _ (cc3_ (aM HI0.out.1).out) (fun hHeld=>?_)
   clear hK K
   refine nm_ 3 ?_
   exact norm_ (z45_) (hCont (gb680) _ ⟨hHeld,(z2_ BK680.out),GW680.out,GE680.out,NB0_680.out,NB680_0.out,(z33_ HI0.out NB0_680.out),(z11_ HK.out GW680.out),(z23_ HB.out HI0.out GE680.out)⟩)
  ·skip
   refine bs_ 3 #[.int .i64 0,.int .i64 0,.int .i64 0] 130 ?_
   intro gb680 hg w5 hbox hb
   have n0_:=aM (IsS99.below (z29_ HI0.out) hb)
   have n1_:=aM (KeepBut.trans (z6_ HK.out) (KeepBut.of_below hb g none) (.inl rfl))
   have n2_:=aM (below_step (z30_ HB.out HI0.out) hb)
   have n3_:=aM (hbox)
   have n4_:=aM ((z19_ HK.out:w.heap.size≤gb680))
   have n5_:=aM ((Nat.le_trans HW0.out (z19_ HK.out:w.heap.size≤gb680):w0.heap.size≤gb680))
   have n6_:=aM ((by rw [hg];exact Nat.ne_of_lt (IsS99.lt (show IsS99 w0 _ g s0_0 s0_1 s0_2 from by repeat (first | (with_reducible first | exact HI0.out | apply IsS99.alloc | apply IsS99.drewN | apply IsS99.drew | apply IsS99.set_0 | apply IsS99.set_1 | apply IsS99.set_2) | exact HI0.out))):g≠gb680))
   have n7_:=aM ((by rw [hg];exact Nat.ne_of_gt (IsS99.lt (show IsS99 w0 _ g s0_0 s0_1 s0_2 from by repeat (first | (with_reducible first | exact HI0.out | apply IsS99.alloc | apply IsS99.drewN | apply IsS99.drew | apply IsS99.set_0 | apply IsS99.set_1 | apply IsS99.set_2) | exact HI0.out))):gb680≠g))
   clear HI0
   clear HK
   clear HB
   have HI0:=n0_
   have HK:=n1_
   have HB:=n2_
   have BK680:=n3_
   have GW680:=n4_
   have GE680:=n5_
   have NB0_680:=n6_
   have NB680_0:=n7_
   clear n0_ n1_ n2_ n3_ n4_ n5_ n6_ n7_
   clear hb hbox hg
   refine hK.out _ _ (cc3_ (aM HI0.out.1).out) (fun hHeld=>?_)
   clear hK K
   refine nm_ 3 ?_
   refine o1_ 8 12 #[I,I,I,I,I,I,I,I,I,I,O] HT_.out (fun K hK=>?_)
   refine gs_ Try.func119 #[.string s0_0,.int .i64 s0_1] ?_
   with_reducible refine (Y21.calls k s0_0 s0_1 t677 t678 t679 _ A2.out).mono ?_
   rintro e w6 ⟨rfl,hb⟩
   refine ⟨_,rfl,?_⟩
   have n0_:=aM (IsS99.below (z33_ HI0.out NB0_680.out) hb)
   have n1_:=aM (blkB_ BK680.out hb)
   have n2_:=aM (KeepBut.trans (z11_ HK.out GW680.out) (KeepBut.of_below hb g none) (.inl rfl))
   have n3_:=aM (below_step (z23_ HB.out HI0.out GE680.out) hb)
   clear HI0
   clear BK680
   clear HK
   clear HB
   have HI0:=n0_
   have BK680:=n1_
   have HK:=n2_
   have HB:=n3_
   clear n0_ n1_ n2_ n3_
   (try clear hb)
   refine hK.out _ _ (cc3_ (aM HI0.out.1).out) (fun hHeld=>?_)
   clear hK K
   refine nm_ 12 ?_
   exact norm_ (z45_) (hCont (gb680) _ ⟨hHeld,(z2_ BK680.out),GW680.out,GE680.out,NB0_680.out,NB680_0.out,(z33_ HI0.out NB0_680.out),(z11_ HK.out GW680.out),(z23_ HB.out HI0.out GE680.out)⟩)
 rintro gb680 w7 ⟨hS_,h0_,h1_,h2_,h3_,h4_,h5_,h6_,h7_⟩
 have n0_:Aside0 (w7.heap[gb680]? = some (.cells #[.int .i64 0,.int .i64 0,.int .i64 0] 130 (0,0))):=⟨h0_⟩
 have n1_:Aside0 (w.heap.size≤gb680):=⟨h1_⟩
 have n2_:Aside0 (w0.heap.size≤gb680):=⟨h2_⟩
 have n3_:Aside0 (g≠gb680):=⟨h3_⟩
 have n4_:Aside0 (gb680≠g):=⟨h4_⟩
 have n5_:Aside0 (IsS99 w0 w7 g s0_0 s0_1 s0_2):=⟨h5_⟩
 have n6_:Aside0 (KeepBut w w7 g none):=⟨h6_⟩
 have n7_:Aside0 (Below w0.heap.size w0 w7):=⟨h7_⟩
 clear HI0
 clear HK
 clear HB
 clear h0_ h1_ h2_ h3_ h4_ h5_ h6_ h7_
 have BK680:=n0_
 have GW680:=n1_
 have GE680:=n2_
 have NB0_680:=n3_
 have NB680_0:=n4_
 have HI0:=n5_
 have HK:=n6_
 have HB:=n7_
 clear n0_ n1_ n2_ n3_ n4_ n5_ n6_ n7_
 have hHeld:w7.cell? ⟨g,0,none⟩=some (.string s0_0)∧w7.cell? ⟨g,1,none⟩=some (.int .i64 s0_1)∧w7.cell? ⟨g,2,none⟩=some (.bool s0_2):=hS_
 refine norm_ (a':=?_) ?_ ?_
 rotate_left
 ·simp only [putAll,Act.put,List.setIfInBounds_toArray,List.set_cons_zero,List.set_cons_succ]
  rfl
 refine one_ (i:=10) (N:=none) #[I,I,I,I,I,I,I,I,I,I,I] rfl rfl (one_of HT_.out (by kernel_rfl)) (by decide) (fun K hK=>?_)
 have hs8:w7.cell? ⟨gb680,0,none⟩=some (.int .i64 0):=(blk_cell BK680.out 0).trans rfl
 have hfs8:=blk_frozen BK680.out 0
 have hs9:w7.cell? ⟨gb680,1,none⟩=some (.int .i64 0):=(blk_cell BK680.out 1).trans rfl
 have hfs9:=blk_frozen BK680.out 1
 have hs10:w7.cell? ⟨gb680,2,none⟩=some (.int .i64 0):=(blk_cell BK680.out 2).trans rfl
 have hfs10:=blk_frozen BK680.out 2
 refine skip_ (w1:=?_) (by rfl) rfl ?_ ?_
 rotate_left
 ·go_simp
  rfl
 refine hK.out _ _ ⟨((cell_far (p:=⟨gb680,_,none⟩) NB0_680.out _).trans (((cell_far (p:=⟨gb680,_,none⟩) NB0_680.out _).trans (((cell_far (p:=⟨gb680,_,none⟩) NB0_680.out _).trans (hHeld.1)))))),((cell_far (p:=⟨gb680,_,none⟩) NB0_680.out _).trans (((cell_far (p:=⟨gb680,_,none⟩) NB0_680.out _).trans (((cell_far (p:=⟨gb680,_,none⟩) NB0_680.out _).trans (hHeld.2.1)))))),((cell_far (p:=⟨gb680,_,none⟩) NB0_680.out _).trans (((cell_far (p:=⟨gb680,_,none⟩) NB0_680.out _).trans (((cell_far (p:=⟨gb680,_,none⟩) NB0_680.out _).trans (hHeld.2.2))))))⟩ (fun hHeld=>?_)
 clear hK K
 refine done_ (done_of HT_.out (by kernel_rfl)) ?_
 go_upto_region 2 with (fail)
 go_cut [21] (fun v21 wc=>∃ (kq:Nat) (x21_2:Bool),v21 = .bool x21_2∧Aside0 (Y15.j0 kq x21_2 s0_0 s0_1 s0_2 t677 t678 t679=some (r1,r2,r3,r4))∧Aside0 (kq≤k)∧Aside0 (wc.heap[gb680]? = some (.cells #[.int .i64 t677,.int .i64 t678,.int .i64 t679] 130 (0,0)))∧Aside0 (IsS99 w0 wc g s0_0 s0_1 s0_2)∧Aside0 (KeepBut w wc g none)∧Aside0 (Below w0.heap.size w0 wc))
 case first =>
  have H:=HC3.out
  clear HC3
  by_cases c11:s0_2=true
  ·subst c11
   have H1:(Y15.j0 k true s0_0 s0_1 true t677 t678 t679)=some (r1,r2,r3,r4):=by rw [if_pos rfl] at H;exact H
   clear H
   have H:=H1
   clear H1
   have H':=aM H
   clear H
   obtain ⟨HGz12,hgz12⟩:=HI0.out
   have hcz12_0:=cellS99_0 HGz12
   have hcz12_1:=cellS99_1 HGz12
   have hcz12_2:=cellS99_2 HGz12
   have hfz12_0:=blk_frozen HGz12 0
   have hfz12_1:=blk_frozen HGz12 1
   have hfz12_2:=blk_frozen HGz12 2
   clear HGz12 hgz12
   go_wp2
   go_meet
   case rel=>exact ⟨_,(true),(z3_),H',⟨by first | omega | exact Nat.le_refl _⟩,⟨z18_ BK680.out⟩,⟨z33_ HI0.out NB0_680.out⟩,⟨z11_ HK.out GW680.out⟩,⟨z23_ HB.out HI0.out GE680.out⟩⟩
  ·replace c11:=Bool.eq_false_iff.mpr c11
   subst c11
   have H1:(Y15.j0 k (t679 != 0) s0_0 s0_1 false t677 t678 t679)=some (r1,r2,r3,r4):=by rw [if_neg (show ¬ (false=true) by decide)] at H;exact H
   clear H
   have H:=H1
   clear H1
   have H':=aM H
   clear H
   obtain ⟨HGz13,hgz13⟩:=HI0.out
   have hcz13_0:=cellS99_0 HGz13
   have hcz13_1:=cellS99_1 HGz13
   have hcz13_2:=cellS99_2 HGz13
   have hfz13_0:=blk_frozen HGz13 0
   have hfz13_1:=blk_frozen HGz13 1
   have hfz13_2:=blk_frozen HGz13 2
   clear HGz13 hgz13
   have hnb14:=NB680_0.out
   have hnc14:=NB0_680.out
   have ⟨hcz15_0,hcz15_1,hcz15_2,hfz15_0,hfz15_1,hfz15_2⟩:=cz3_ BK680.out
   go_wp2
   go_meet
   case rel=>exact ⟨_,((t679 != 0)),(z3_),H',⟨by first | omega | exact Nat.le_refl _⟩,⟨z18_ BK680.out⟩,⟨z33_ HI0.out NB0_680.out⟩,⟨z11_ HK.out GW680.out⟩,⟨z23_ HB.out HI0.out GE680.out⟩⟩
 case rest =>
  clear HC3
  try clear c1
  try clear p2
  try clear c10
  try clear c11
  try clear c14
  try clear hcz12_0
  try clear hcz12_1
  try clear hcz12_2
  try clear hcz13_0
  try clear hcz13_1
  try clear hcz13_2
  try clear hcz15_0
  try clear hcz15_1
  try clear hcz15_2
  try clear hfz12_0
  try clear hfz12_1
  try clear hfz12_2
  try clear hfz13_0
  try clear hfz13_1
  try clear hfz13_2
  try clear hfz15_0
  try clear hfz15_1
  try clear hfz15_2
  obtain ⟨kq,x21_2,rfl,HA,HJ2,BK680,HI0,HK,HB⟩:=hcut
  cases kq with
  | zero=>exact absurd HA.out (by simp [Y15.j0])
  | succ kj2 =>
   have H:=HA.out
   clear HA
   simp only [Y15.j0] at H
   by_cases c16:x21_2=true
   ·subst c16
    have H1:(some (0,s0_0,s0_1,true))=some (r1,r2,r3,r4):=by rw [if_pos rfl] at H;exact H
    clear H
    have H:=H1
    clear H1
    simp only [Option.some.injEq,Prod.mk.injEq] at H
    obtain ⟨rfl,rfl,rfl,rfl⟩:=H
    obtain ⟨HGz17,hgz17⟩:=HI0.out
    have hcz17_0:=cellS99_0 HGz17
    have hcz17_1:=cellS99_1 HGz17
    have hcz17_2:=cellS99_2 HGz17
    have hfz17_0:=blk_frozen HGz17 0
    have hfz17_1:=blk_frozen HGz17 1
    have hfz17_2:=blk_frozen HGz17 2
    clear HGz17 hgz17
    go_wp2
    go_ret
    exact ⟨z5_,z33_ HI0.out NB0_680.out,z23_ HB.out HI0.out GE680.out,z11_ HK.out GW680.out⟩
   ·replace c16:=Bool.eq_false_iff.mpr c16
    subst c16
    have H1:(some (t677,s0_0,t678,s0_2))=some (r1,r2,r3,r4):=by rw [if_neg (show ¬ (false=true) by decide)] at H;exact H
    clear H
    have H:=H1
    clear H1
    simp only [Option.some.injEq,Prod.mk.injEq] at H
    obtain ⟨rfl,rfl,rfl,rfl⟩:=H
    have hnb18:=NB680_0.out
    have hnc18:=NB0_680.out
    have ⟨hcz19_0,hcz19_1,hcz19_2,hfz19_0,hfz19_1,hfz19_2⟩:=cz3_ BK680.out
    obtain ⟨HGz20,hgz20⟩:=HI0.out
    have hcz20_0:=cellS99_0 HGz20
    have hcz20_1:=cellS99_1 HGz20
    have hcz20_2:=cellS99_2 HGz20
    have hfz20_0:=blk_frozen HGz20 0
    have hfz20_1:=blk_frozen HGz20 1
    have hfz20_2:=blk_frozen HGz20 2
    clear HGz20 hgz20
    go_wp2
    go_ret
    exact ⟨z5_,z33_ HI0.out NB0_680.out,z23_ HB.out HI0.out GE680.out,z11_ HK.out GW680.out⟩


/-! ### Y49: function 107 -/
def Y49.f (k:Nat) (s0_0:ByteArray) (s0_1:Int) (s0_2:Bool) (a1:Int):Option (Int × ByteArray × Int × Bool):=(Y15.f k s0_0 s0_1 s0_2).bind fun bt681=>((Y65.f bt681.1 0 a1).bind fun t685=>(if t685=true then (some (bt681.1,bt681.2.1,bt681.2.2.1,bt681.2.2.2)) else (some (0,bt681.2.1,bt681.2.2.1,true))))
theorem Y49.mono:∀ a0 a1 a2 a3 k,LeO (Y49.f k a0 a1 a2 a3) (Y49.f (k+1) a0 a1 a2 a3):=by
 intro a0 a1 a2 a3 k
 have m0:=@Y15.mono
 unfold Y49.f
 exact mO
theorem Y49.calls (k:Nat) (g:Nat) (s0_0:ByteArray) (s0_1:Int) (s0_2:Bool) (a1:Int) (r1:Int) (r2:ByteArray) (r3:Int) (r4:Bool) (w0 w:World) (hI:IsS99 w0 w g s0_0 s0_1 s0_2) (hB:Below w0.heap.size w0 w) (h:Y49.f k s0_0 s0_1 s0_2 a1=some (r1,r2,r3,r4)) :
  Calls Try.prog 107 #[.pointer (some ⟨g,0,none⟩),.int .i64 a1] w fun e w'=>e = .returned (.int .i64 r1)∧IsS99 w0 w' g r2 r3 r4∧Below w0.heap.size w0 w'∧KeepBut w w' g none:=by
 have HI0:=aM hI
 have HK:=aM (KeepBut.refl w g none)
 have HL:=aM hB.size
 clear hI
 have HW0:=aM hB.size
 have HB:=aM hB
 clear hB
 have H:((Y15.f k s0_0 s0_1 s0_2).bind fun bt681=>((Y65.f bt681.1 0 a1).bind fun t685=>(if t685=true then (some (bt681.1,bt681.2.1,bt681.2.2.1,bt681.2.2.2)) else (some (0,bt681.2.1,bt681.2.2.1,true)))))=some (r1,r2,r3,r4):=h
 clear h
 replace H:=bS H
 obtain ⟨⟨t681,t682,t683,t684⟩,A30,H⟩:=H
 replace H:((Y65.f t681 0 a1).bind fun t685=>(if t685=true then (some (t681,t682,t683,t684)) else (some (0,t682,t683,true))))=some (r1,r2,r3,r4):=H
 have A3:=aM A30
 clear A30
 replace H:=bS H
 obtain ⟨t685,A40,H⟩:=H
 replace H:(if t685=true then (some (t681,t682,t683,t684)) else (some (0,t682,t683,true)))=some (r1,r2,r3,r4):=H
 have A4:=aM A40
 clear A40
 by_cases c5:t685=true
 ·subst c5
  have H1:(some (t681,t682,t683,t684))=some (r1,r2,r3,r4):=by rw [if_pos rfl] at H;exact H
  clear H
  have H:=H1
  clear H1
  simp only [Option.some.injEq,Prod.mk.injEq] at H
  obtain ⟨rfl,rfl,rfl,rfl⟩:=H
  go_enter Try.func107,Try.ntmps107
  go_wp2_with (first | ((with_reducible refine gc_ 108 ?_);refine gl_ (some 7) Try.func108 #[.pointer (some ⟨g,0,none⟩)] ?_;(with_reducible refine (Y15.calls k g s0_0 s0_1 s0_2 t681 t682 t683 t684 w0 _ ?s1 ?s2 A3.out).mono ?_);(case s1=>repeat (first | (with_reducible first | exact HI0.out | apply IsS99.alloc | apply IsS99.drewN | apply IsS99.drew | apply IsS99.set_0 | apply IsS99.set_1 | apply IsS99.set_2) | exact HI0.out));(case s2=>repeat (first | (with_reducible first | exact HB.out | apply below_alloc | apply pw_below_drewN | apply below_drew1 | refine below_set ?_ (IsS99.ge HI0.out)) | exact HB.out));rintro e w6 ⟨rfl,hi,hb,hk⟩;refine ⟨_,rfl,?_⟩;have n0_:=aM (KeepBut.trans (z6_ HK.out) hk (.inl rfl));have n1_:=aM (hb);have n2_:=aM (hi);clear HK;clear HB;clear HI0;have HK:=n0_;have HB:=n1_;have HI0:=n2_;clear n0_ n1_ n2_;(try clear hb);(try clear hk);(try clear hi)) | ((with_reducible refine gc_ 45 ?_);refine gl_ (some 10) Try.func45 #[.int .i64 t681,.int .i64 0,.int .i64 a1] ?_;(with_reducible refine (Y65.calls t681 0 a1 true _ A4.out).mono ?_);rintro e w' ⟨rfl,⟨nd,rfl⟩⟩;refine ⟨_,rfl,?_⟩))
  go_ret
  exact ⟨z5_,z29_ HI0.out,z30_ HB.out HI0.out,z6_ HK.out⟩
 ·replace c5:=Bool.eq_false_iff.mpr c5
  subst c5
  have H1:(some (0,t682,t683,true))=some (r1,r2,r3,r4):=by rw [if_neg (show ¬ (false=true) by decide)] at H;exact H
  clear H
  have H:=H1
  clear H1
  simp only [Option.some.injEq,Prod.mk.injEq] at H
  obtain ⟨rfl,rfl,rfl,rfl⟩:=H
  go_enter Try.func107,Try.ntmps107
  go_wp2_with (first | ((with_reducible refine gc_ 108 ?_);refine gl_ (some 7) Try.func108 #[.pointer (some ⟨g,0,none⟩)] ?_;(with_reducible refine (Y15.calls k g s0_0 s0_1 s0_2 t681 t682 t683 t684 w0 _ ?s1 ?s2 A3.out).mono ?_);(case s1=>repeat (first | (with_reducible first | exact HI0.out | apply IsS99.alloc | apply IsS99.drewN | apply IsS99.drew | apply IsS99.set_0 | apply IsS99.set_1 | apply IsS99.set_2) | exact HI0.out));(case s2=>repeat (first | (with_reducible first | exact HB.out | apply below_alloc | apply pw_below_drewN | apply below_drew1 | refine below_set ?_ (IsS99.ge HI0.out)) | exact HB.out));rintro e w7 ⟨rfl,hi,hb,hk⟩;refine ⟨_,rfl,?_⟩;have n0_:=aM (KeepBut.trans (z6_ HK.out) hk (.inl rfl));have n1_:=aM (hb);have n2_:=aM (hi);clear HK;clear HB;clear HI0;have HK:=n0_;have HB:=n1_;have HI0:=n2_;clear n0_ n1_ n2_;(try clear hb);(try clear hk);(try clear hi)) | ((with_reducible refine gc_ 45 ?_);refine gl_ (some 10) Try.func45 #[.int .i64 t681,.int .i64 0,.int .i64 a1] ?_;(with_reducible refine (Y65.calls t681 0 a1 false _ A4.out).mono ?_);rintro e w' ⟨rfl,⟨nd,rfl⟩⟩;refine ⟨_,rfl,?_⟩;(try (rw [drewN_self w7];generalize hq_:World.drewN w7 _=w7;have n0_:Aside0 (IsS99 w0 w7 g t682 t683 t684):=⟨by rw [← hq_];exact (by repeat (first | (with_reducible first | exact HI0.out | apply IsS99.alloc | apply IsS99.drewN | apply IsS99.drew | apply IsS99.set_0 | apply IsS99.set_1 | apply IsS99.set_2) | exact HI0.out))⟩;have n1_:Aside0 (KeepBut w w7 g none):=⟨by rw [← hq_];exact (by repeat (first | (with_reducible first | exact HK.out | apply KeepBut.set_ | apply keep_drewN | apply keep_drew | apply keep_alloc) | exact HK.out))⟩;have n2_:Aside0 (Below w0.heap.size w0 w7):=⟨by rw [← hq_];exact (by repeat (first | (with_reducible first | exact HB.out | apply below_alloc | apply pw_below_drewN | apply below_drew1 | refine below_set ?_ (IsS99.ge HI0.out)) | exact HB.out))⟩;clear HI0 HK HB hq_;have HI0:=n0_;have HK:=n1_;have HB:=n2_;clear n0_ n1_ n2_));obtain ⟨HGz8,hgz8⟩:=HI0.out;have hcz8_0:=cellS99_0 HGz8;have hcz8_1:=cellS99_1 HGz8;have hcz8_2:=cellS99_2 HGz8;have hfz8_0:=blk_frozen HGz8 0;have hfz8_1:=blk_frozen HGz8 1;have hfz8_2:=blk_frozen HGz8 2;clear HGz8 hgz8))
  go_ret
  exact ⟨z5_,z29_ HI0.out,z30_ HB.out HI0.out,z6_ HK.out⟩


/-! ### Y13: function 87 -/
mutual
def Y13.l0:Nat→List (S49)→Int→ByteArray→Int→Bool→Option ((List (S49)) × ByteArray × Int × Bool)
 | 0,_,_,_,_,_=>none
 | k+1,x3,x4,x1000,x1001,x1002=>if x4>0 then (Y13.j1 k x3 x4 (!x1002) x1000 x1001 x1002) else (Y13.j1 k x3 x4 false x1000 x1001 x1002)
def Y13.j1:Nat→List (S49)→Int→Bool→ByteArray→Int→Bool→Option ((List (S49)) × ByteArray × Int × Bool)
 | 0,_,_,_,_,_,_=>none
 | k+1,x3,x4,x17,x1000,x1001,x1002=>if x17=true then ((Y15.f k x1000 x1001 x1002).bind fun bt693=>((Y15.f k bt693.2.1 bt693.2.2.1 bt693.2.2.2).bind fun bt698=>(if x3.length<8796093022208 then (Y13.l0 k (x3 ++ [(⟨bt693.1,bt698.1⟩:S49)]) (wrap64 (x4-1)) bt698.2.1 bt698.2.2.1 bt698.2.2.2) else (none)))) else (some (x3,x1000,x1001,x1002))
end
def Y13.f (k:Nat) (s0_0:ByteArray) (s0_1:Int) (s0_2:Bool):Option ((List (S49)) × ByteArray × Int × Bool):=(Y49.f k s0_0 s0_1 s0_2 5).bind fun bt689=>(Y13.l0 k (([]:List (S49))) bt689.1 bt689.2.1 bt689.2.2.1 bt689.2.2.2)
theorem Y13.mono_l:∀ k,(∀ y0 y1 y2 y3 y4,LeO (Y13.l0 k y0 y1 y2 y3 y4) (Y13.l0 (k+1) y0 y1 y2 y3 y4))∧(∀ y0 y1 y2 y3 y4 y5,LeO (Y13.j1 k y0 y1 y2 y3 y4 y5) (Y13.j1 (k+1) y0 y1 y2 y3 y4 y5))
 | 0=>by refine ⟨?_,?_⟩ <;> intros <;> exact LeO.none _
 | k+1=>by
  obtain ⟨ih0,ih1⟩:=Y13.mono_l k
  have m0:=@Y49.mono
  have m1:=@Y15.mono
  refine ⟨?_,?_⟩
  ·intros
   unfold Y13.l0
   exact mO
  ·intros
   unfold Y13.j1
   exact mO
theorem Y13.mono:∀ a0 a1 a2 k,LeO (Y13.f k a0 a1 a2) (Y13.f (k+1) a0 a1 a2):=by
 intro a0 a1 a2 k
 have m0:=@Y49.mono
 have m1:=@Y15.mono
 obtain ⟨ih0,ih1⟩:=Y13.mono_l k
 unfold Y13.f
 exact mO
theorem Y13.calls (k:Nat) (g:Nat) (s0_0:ByteArray) (s0_1:Int) (s0_2:Bool) (r1:List (S49)) (r2:ByteArray) (r3:Int) (r4:Bool) (w0 w:World) (hI:IsS99 w0 w g s0_0 s0_1 s0_2) (hB:Below w0.heap.size w0 w) (h:Y13.f k s0_0 s0_1 s0_2=some (r1,r2,r3,r4)) :
  Calls Try.prog 87 #[.pointer (some ⟨g,0,none⟩)] w fun e w'=>∃ v0_:Value,e = .returned (v0_)∧Kd.R k49 49 w' w.heap.size (fun _=>True) v0_ r1∧IsS99 w0 w' g r2 r3 r4∧Below w0.heap.size w0 w'∧KeepBut w w' g none:=by
 have hu49:=Try.underlying49
 have HI0:=aM hI
 have HK:=aM (KeepBut.refl w g none)
 have HL:=aM hB.size
 clear hI
 have HW0:=aM hB.size
 have HB:=aM hB
 clear hB
 have H:((Y49.f k s0_0 s0_1 s0_2 5).bind fun bt689=>(Y13.l0 k (([]:List (S49))) bt689.1 bt689.2.1 bt689.2.2.1 bt689.2.2.2))=some (r1,r2,r3,r4):=h
 clear h
 obtain ⟨y686,hy686⟩:∃ y_:List (S49),y_=(([]:List (S49))):=⟨_,rfl⟩
 replace H:((Y49.f k s0_0 s0_1 s0_2 5).bind fun bt689=>(Y13.l0 k y686 bt689.1 bt689.2.1 bt689.2.2.1 bt689.2.2.2))=some (r1,r2,r3,r4):=by first | (rw [hy686];with_reducible exact H) | (have H2_:=(Option.bind_some _ _).symm.trans H;rw [hy686];with_reducible exact H2_) | (have H2_:=(Option.bind_some _ _).symm.trans H;with_reducible exact H2_) | with_reducible exact H | (rw [hy686];exact H) | exact H
 have Ny686:=aM hy686
 clear hy686
 replace H:=bS H
 obtain ⟨⟨t689,t690,t691,t692⟩,A20,H⟩:=H
 replace H:(Y13.l0 k y686 t689 t690 t691 t692)=some (r1,r2,r3,r4):=H
 have A2:=aM A20
 clear A20
 have H':=aM H
 clear H
 go_enter Try.func87,Try.ntmps87
 go_wp2_with (first | ((with_reducible refine gd_ 6 ?_);refine Kd.R_lit k49 _ 49 ?hg (N:=6) ?hd (xs:=([]:List (S49))) (inner:=[]) (ok:=fun _=>True) (okp:=fun _=>True) ?hr ?hp (fun _ hk=>hk) trivial (Below.refl _ _) (Nat.le_refl _) (by simp) ?_;(case hd=>rfl);(case hg=>rfl);(case hr=>first | (go_simp;done) | (go_simp;rfl));(case hp=>exact (Reps.none _ _));intro v687 w3 ho4 hb hg_ hnew_;clear hg_ hnew_;(first | rw [← Ny686.out] at ho4 | (simp only [Int.reduceToNat] at ho4;rw [← Ny686.out] at ho4));have n0_:=aM (Kd.R_lower ho4 (keep_size (w:=w) (g:=g) (row:=none) (z6_ HK.out)));have n1_:=aM (IsS99.below (z29_ HI0.out) hb);have n2_:=aM (KeepBut.trans (z6_ HK.out) (KeepBut.of_below hb g none) (.inl rfl));have n3_:=aM (below_step (z30_ HB.out HI0.out) hb);clear HI0;clear HK;clear HB;have HO688:=n0_;have HI0:=n1_;have HK:=n2_;have HB:=n3_;clear n0_ n1_ n2_ n3_;clear hb ho4) | ((with_reducible refine gc_ 107 ?_);refine gl_ (some 8) Try.func107 #[.pointer (some ⟨g,0,none⟩),.int .i64 5] ?_;(with_reducible refine (Y49.calls k g s0_0 s0_1 s0_2 5 t689 t690 t691 t692 w0 _ ?s1 ?s2 A2.out).mono ?_);(case s1=>repeat (first | (with_reducible first | exact HI0.out | apply IsS99.alloc | apply IsS99.drewN | apply IsS99.drew | apply IsS99.set_0 | apply IsS99.set_1 | apply IsS99.set_2) | exact HI0.out));(case s2=>repeat (first | (with_reducible first | exact HB.out | apply below_alloc | apply pw_below_drewN | apply below_drew1 | refine below_set ?_ (IsS99.ge HI0.out)) | exact HB.out));rintro e w5 ⟨rfl,hi,hb,hk⟩;refine ⟨_,rfl,?_⟩;have n0_:=aM (Kd.R_mono (Kd.R_keep (IsS99.apart (show IsS99 w0 _ g s0_0 s0_1 s0_2 from by repeat (first | (with_reducible first | exact HI0.out | apply IsS99.alloc | apply IsS99.drewN | apply IsS99.drew | apply IsS99.set_0 | apply IsS99.set_1 | apply IsS99.set_2) | exact HI0.out)) (z0_ HO688.out) (by decide)) hk (fun _ h=>h.2)) (fun _ h=>h.1));have n1_:=aM (KeepBut.trans (z6_ HK.out) hk (.inl rfl));have n2_:=aM (hb);have n3_:=aM (hi);clear HO688;clear HK;clear HB;clear HI0;have HO688:=n0_;have HK:=n1_;have HB:=n2_;have HI0:=n3_;clear n0_ n1_ n2_ n3_;(try clear hb);(try clear hk);(try clear hi)))
 go_loopg [3,4] k (fun kq v3 v4 w'=>∃ (x3_1:List (S49)) (x4_1:Int) (x1000_1:ByteArray) (x1001_1:Int) (x1002_1:Bool),v4 = .int .i64 x4_1∧Aside0 (Y13.l0 kq x3_1 x4_1 x1000_1 x1001_1 x1002_1=some (r1,r2,r3,r4))∧Aside0 (kq≤k)∧Aside0 (Kd.R k49 49 w' w.heap.size (fun _=>True) v3 x3_1)∧Aside0 (IsS99 w0 w' g x1000_1 x1001_1 x1002_1)∧Aside0 (KeepBut w w' g none)∧Aside0 (Below w0.heap.size w0 w'))
 case atStart=>exact ⟨(y686),(t689),(t690),(t691),(t692),(z3_),H',⟨Nat.le_refl _⟩,⟨z0_ HO688.out⟩,⟨z29_ HI0.out⟩,⟨z6_ HK.out⟩,⟨z30_ HB.out HI0.out⟩⟩
 case round =>
  clear H'
  try clear c1
  try clear p2
  obtain ⟨x3_1,x4_1,x1000_1,x1001_1,x1002_1,rfl,HA,HK1,HO_3,HI0,HK,HB⟩:=hrel
  cases gk with
  | zero=>exact absurd HA.out (by simp [Y13.l0])
  | succ k1 =>
   have H:=HA.out
   clear HA
   simp only [Y13.l0] at H
   have HC6:=aM H
   clear H
   go_upto_region 3 with (fail)
   go_cut [17] (fun v17 wc=>∃ (kq:Nat) (x17_5:Bool),v17 = .bool x17_5∧Aside0 (Y13.j1 kq x3_1 x4_1 x17_5 x1000_1 x1001_1 x1002_1=some (r1,r2,r3,r4))∧Aside0 (kq≤k1)∧Aside0 (Kd.R k49 49 wc w.heap.size (fun _=>True) u3 x3_1)∧Aside0 (IsS99 w0 wc g x1000_1 x1001_1 x1002_1)∧Aside0 (KeepBut w wc g none)∧Aside0 (Below w0.heap.size w0 wc))
   case first =>
    have H:=HC6.out
    clear HC6
    by_cases c7:x4_1>0
    ·rw [if_pos c7] at H
     have c7b0:decide (0<x4_1)=true:=dE c7
     clear c7
     (first | rw [c7b0] | (simp only [i64_w,i32_w];rw [c7b0]) | skip)
     have H':=aM H
     clear H
     obtain ⟨HGz8,hgz8⟩:=HI0.out
     have hcz8_0:=cellS99_0 HGz8
     have hcz8_1:=cellS99_1 HGz8
     have hcz8_2:=cellS99_2 HGz8
     have hfz8_0:=blk_frozen HGz8 0
     have hfz8_1:=blk_frozen HGz8 1
     have hfz8_2:=blk_frozen HGz8 2
     clear HGz8 hgz8
     go_wp2
     go_meet
     case rel=>exact ⟨_,(!x1002_1),(z3_),H',⟨z16_ HK1.out⟩,⟨z0_ HO_3.out⟩,⟨z29_ HI0.out⟩,⟨z6_ HK.out⟩,⟨z30_ HB.out HI0.out⟩⟩
    ·rw [if_neg c7] at H
     have c7b0:decide (0<x4_1)=false:=dF c7
     clear c7
     (first | rw [c7b0] | (simp only [i64_w,i32_w];rw [c7b0]) | skip)
     have H':=aM H
     clear H
     go_wp2
     go_meet
     case rel=>exact ⟨_,(false),(z3_),H',⟨z16_ HK1.out⟩,⟨z0_ HO_3.out⟩,⟨z29_ HI0.out⟩,⟨z6_ HK.out⟩,⟨z30_ HB.out HI0.out⟩⟩
   case rest =>
    clear HC6
    try clear c1
    try clear p2
    try clear c7
    try clear c7b0
    try clear c8
    try clear hcz8_0
    try clear hcz8_1
    try clear hcz8_2
    try clear hfz8_0
    try clear hfz8_1
    try clear hfz8_2
    try clear p2
    obtain ⟨kq,x17_5,rfl,HA,HJ5,HO_3,HI0,HK,HB⟩:=hcut
    cases kq with
    | zero=>exact absurd HA.out (by simp [Y13.j1])
    | succ kj5 =>
     have H:=HA.out
     clear HA
     simp only [Y13.j1] at H
     by_cases c9:x17_5=true
     ·subst c9
      have H1:((Y15.f kj5 x1000_1 x1001_1 x1002_1).bind fun bt693=>((Y15.f kj5 bt693.2.1 bt693.2.2.1 bt693.2.2.2).bind fun bt698=>(if x3_1.length<8796093022208 then (Y13.l0 kj5 (x3_1 ++ [(⟨bt693.1,bt698.1⟩:S49)]) (wrap64 (x4_1-1)) bt698.2.1 bt698.2.2.1 bt698.2.2.2) else (none))))=some (r1,r2,r3,r4):=by rw [if_pos rfl] at H;exact H
      clear H
      have H:=H1
      clear H1
      replace H:=bS H
      obtain ⟨⟨t693,t694,t695,t696⟩,A100,H⟩:=H
      replace H:((Y15.f kj5 t694 t695 t696).bind fun bt698=>(if x3_1.length<8796093022208 then (Y13.l0 kj5 (x3_1 ++ [(⟨t693,bt698.1⟩:S49)]) (wrap64 (x4_1-1)) bt698.2.1 bt698.2.2.1 bt698.2.2.2) else (none)))=some (r1,r2,r3,r4):=H
      have A10:=aM A100
      clear A100
      replace H:=bS H
      obtain ⟨⟨t698,t699,t700,t701⟩,A110,H⟩:=H
      replace H:(if x3_1.length<8796093022208 then (Y13.l0 kj5 (x3_1 ++ [(⟨t693,t698⟩:S49)]) (wrap64 (x4_1-1)) t699 t700 t701) else (none))=some (r1,r2,r3,r4):=H
      have A11:=aM A110
      clear A110
      by_cases c12:x3_1.length<8796093022208
      ·rw [if_pos c12] at H
       have LMc12:=aM c12
       clear c12
       obtain ⟨y702,hy702⟩:∃ y_:List (S49),y_=(x3_1 ++ [(⟨t693,t698⟩:S49)]):=⟨_,rfl⟩
       replace H:(Y13.l0 kj5 y702 (wrap64 (x4_1-1)) t699 t700 t701)=some (r1,r2,r3,r4):=by first | (rw [hy702];with_reducible exact H) | (have H2_:=(Option.bind_some _ _).symm.trans H;rw [hy702];with_reducible exact H2_) | (have H2_:=(Option.bind_some _ _).symm.trans H;with_reducible exact H2_) | with_reducible exact H | (rw [hy702];exact H) | exact H
       have Ny702:=aM hy702
       clear hy702
       have H':=aM H
       clear H
       go_wp2_with (first | ((with_reducible refine gc_ 108 ?_);refine gl_ (some 21) Try.func108 #[.pointer (some ⟨g,0,none⟩)] ?_;(with_reducible refine (Y15.calls kj5 g x1000_1 x1001_1 x1002_1 t693 t694 t695 t696 w0 _ ?s1 ?s2 A10.out).mono ?_);(case s1=>repeat (first | (with_reducible first | exact HI0.out | apply IsS99.alloc | apply IsS99.drewN | apply IsS99.drew | apply IsS99.set_0 | apply IsS99.set_1 | apply IsS99.set_2) | exact HI0.out));(case s2=>repeat (first | (with_reducible first | exact HB.out | apply below_alloc | apply pw_below_drewN | apply below_drew1 | refine below_set ?_ (IsS99.ge HI0.out)) | exact HB.out));rintro e w13 ⟨rfl,hi,hb,hk⟩;refine ⟨_,rfl,?_⟩;have n0_:=aM (Kd.R_mono (Kd.R_keep (IsS99.apart (show IsS99 w0 _ g x1000_1 x1001_1 x1002_1 from by repeat (first | (with_reducible first | exact HI0.out | apply IsS99.alloc | apply IsS99.drewN | apply IsS99.drew | apply IsS99.set_0 | apply IsS99.set_1 | apply IsS99.set_2) | exact HI0.out)) (z0_ HO_3.out) (by decide)) hk (fun _ h=>h.2)) (fun _ h=>h.1));have n1_:=aM (KeepBut.trans (z6_ HK.out) hk (.inl rfl));have n2_:=aM (hb);have n3_:=aM (hi);clear HO_3;clear HK;clear HB;clear HI0;have HO_3:=n0_;have HK:=n1_;have HB:=n2_;have HI0:=n3_;clear n0_ n1_ n2_ n3_;(try clear hb);(try clear hk);(try clear hi)) | ((with_reducible refine gd_ 5 ?_);refine be_ 5 #[.int .i64 0,.int .i64 0] 49 ?_;intro gb697 hg w14 hbox hb;have n0_:=aM (Kd.R_below (Kd.R_elderB (z0_ HO_3.out) gb697 (Nat.le_of_eq hg.symm)) hb);have n1_:=aM (IsS99.below (z29_ HI0.out) hb);have n2_:=aM (KeepBut.trans (z6_ HK.out) (KeepBut.of_below hb g none) (.inl rfl));have n3_:=aM (below_step (z30_ HB.out HI0.out) hb);have n4_:=aM (hbox);have n5_:=aM ((z19_ HK.out:w.heap.size≤gb697));have n6_:=aM ((Nat.le_trans HW0.out (z19_ HK.out:w.heap.size≤gb697):w0.heap.size≤gb697));have n7_:=aM ((by rw [hg];exact Nat.ne_of_lt (IsS99.lt (show IsS99 w0 _ g t694 t695 t696 from by repeat (first | (with_reducible first | exact HI0.out | apply IsS99.alloc | apply IsS99.drewN | apply IsS99.drew | apply IsS99.set_0 | apply IsS99.set_1 | apply IsS99.set_2) | exact HI0.out))):g≠gb697));have n8_:=aM ((by rw [hg];exact Nat.ne_of_gt (IsS99.lt (show IsS99 w0 _ g t694 t695 t696 from by repeat (first | (with_reducible first | exact HI0.out | apply IsS99.alloc | apply IsS99.drewN | apply IsS99.drew | apply IsS99.set_0 | apply IsS99.set_1 | apply IsS99.set_2) | exact HI0.out))):gb697≠g));clear HO_3;clear HI0;clear HK;clear HB;have HO_3:=n0_;have HI0:=n1_;have HK:=n2_;have HB:=n3_;have BK697:=n4_;have GW697:=n5_;have GE697:=n6_;have NB0_697:=n7_;have NB697_0:=n8_;clear n0_ n1_ n2_ n3_ n4_ n5_ n6_ n7_ n8_;clear hb hbox hg;have hnb15:=NB697_0.out;have hnc15:=NB0_697.out;have ⟨hcz16_0,hcz16_1,hfz16_0,hfz16_1⟩:=cz2_ BK697.out) | ((with_reducible refine gc_ 108 ?_);refine gl_ (some 24) Try.func108 #[.pointer (some ⟨g,0,none⟩)] ?_;(with_reducible refine (Y15.calls kj5 g t694 t695 t696 t698 t699 t700 t701 w0 _ ?s1 ?s2 A11.out).mono ?_);(case s1=>repeat (first | (with_reducible first | exact HI0.out | apply IsS99.alloc | apply IsS99.drewN | apply IsS99.drew | apply IsS99.set_0 | apply IsS99.set_1 | apply IsS99.set_2 | refine IsS99.far ?_ (by exact NB0_697.out) _) | exact HI0.out));(case s2=>repeat (first | (with_reducible first | exact HB.out | apply below_alloc | apply pw_below_drewN | apply below_drew1 | refine below_set ?_ (IsS99.ge HI0.out) | refine below_set ?_ GE697.out) | exact HB.out));rintro e w17 ⟨rfl,hi,hb,hk⟩;refine ⟨_,rfl,?_⟩;have n0_:=aM (Kd.R_mono (Kd.R_keep (IsS99.apart (show IsS99 w0 _ g t694 t695 t696 from by repeat (first | (with_reducible first | exact HI0.out | apply IsS99.alloc | apply IsS99.drewN | apply IsS99.drew | apply IsS99.set_0 | apply IsS99.set_1 | apply IsS99.set_2 | refine IsS99.far ?_ (by exact NB0_697.out) _) | exact HI0.out)) (by (with_reducible repeat (first | apply Kd.R_alloc | apply Kd.R_drewN | apply Kd.R_drew));exact (Kd.R_mono (rf2_ (Kd.R_mono HO_3.out (fun k_ hk=>(⟨hk,hk.2⟩:_∧k_≠gb697))) (fun _ hk=>hk.2)) (fun _ h_=>h_.1))) (by decide)) hk (fun _ h=>h.2)) (fun _ h=>h.1));have n1_:=aM (KeepBut.blk hk (g':=gb697) (o:=.cells #[.int .i64 t693,.int .i64 0] 49 (0,0)) (z15_ BK697.out) NB697_0.out (by simp));have n2_:=aM (KeepBut.trans (z11_ HK.out GW697.out) hk (.inl rfl));have n3_:=aM (hb);have n4_:=aM (hi);clear HO_3;clear BK697;clear HK;clear HB;clear HI0;have HO_3:=n0_;have BK697:=n1_;have HK:=n2_;have HB:=n3_;have HI0:=n4_;clear n0_ n1_ n2_ n3_ n4_;(try clear hb);(try clear hk);(try clear hi);have ⟨hcz18_0,hcz18_1,hfz18_0,hfz18_1⟩:=cz2_ BK697.out) | ((with_reducible refine gate_builtin (b:=.append) (xs:=#[.tmp 26,.tmp 28]) rfl ?_);at_builtin;refine Kd.R_append k49 w.heap.size rfl (.tmp 26) (.tmp 28) 33 49 (.agg #[(.int .i64 0),(.int .i64 0)]) 16 rfl Try.underlying33 info49 rfl (by decide) (by omega) u3 x3_1 (⟨t693,t698⟩:S49) [.int .i64 t693,.int .i64 t698] (fun k_=>k_≠gb697) (fun _=>False) rfl (by first | (go_simp;done) | (go_simp;rfl)) ?aP (fun _ hk=>hk.elim) ?aF ?aO (Below.refl _ _) ?aS ?aL ?_;(case aP=>exact k49_mkM _ _ _ (⟨t693,t698⟩:S49));(case aF=>exact (fun k_ hk=>Kd.freshB (g:=gb697) (o:=.cells #[.int .i64 t693,.int .i64 t698] 49 (0,0)) (by (with_reducible repeat (first | refine blk_drewN ?_ _ | refine blk_drew ?_ | refine blk_alloc ?_ _));refine blk_put (cs:=#[.int .i64 t693,.int .i64 0]) ?_ 1 _ rfl;(with_reducible repeat (first | refine blk_drewN ?_ _ | refine blk_drew ?_ | refine blk_alloc ?_ _));exact BK697.out) k_ hk));(case aO=>exact (by (with_reducible repeat (first | apply Kd.R_alloc | apply Kd.R_drewN | apply Kd.R_drew));exact Kd.R_mono (Kd.R_far (p:=⟨gb697,1,none⟩) (Kd.R_mono HO_3.out (fun k_ hk=>(⟨hk,hk.2⟩:_∧k_≠gb697))) (fun _ hk=>hk.2) (.int .i64 t698)) (fun _ hk=>hk.1.2)));(case aS=>exact (keep_size (w:=w) (g:=g) (row:=none) (z11_ HK.out GW697.out)));(case aL=>have:=LMc12.out;omega);intro v703 w19 ho hb hg hat;rw [← Ny702.out] at ho;have n0_:=aM (IsS99.grown (show IsS99 w0 _ g t699 t700 t701 from by repeat (first | (with_reducible first | exact HI0.out | apply IsS99.alloc | apply IsS99.drewN | apply IsS99.drew | apply IsS99.set_0 | apply IsS99.set_1 | apply IsS99.set_2 | refine IsS99.far ?_ (by exact NB0_697.out) _) | exact HI0.out)) hg (IsS99.own_ne HI0.out HO_3.out (by decide)));have n1_:=aM (blk_grown (g:=gb697) (o:=.cells #[.int .i64 t693,.int .i64 t698] 49 (0,0)) (by (with_reducible repeat (first | refine blk_drewN ?_ _ | refine blk_drew ?_ | refine blk_alloc ?_ _));refine blk_put (cs:=#[.int .i64 t693,.int .i64 0]) ?_ 1 _ rfl;(with_reducible repeat (first | refine blk_drewN ?_ _ | refine blk_drew ?_ | refine blk_alloc ?_ _));exact BK697.out) hg (Kd.R_away HO_3.out (fun _ hk=>hk.2)));have n2_:=aM (below_weaken (z23_ HB.out HI0.out GE697.out) HL.out hb);have n3_:=aM (KeepBut.trans (z11_ HK.out GW697.out) (KeepBut.of_grown hg g) (Kd.R_base2 HO_3.out));have n4_:=aM (ho);clear HI0;clear BK697;clear HB;clear HK;clear HO_3;have HI0:=n0_;have BK697:=n1_;have HB:=n2_;have HK:=n3_;have HO704:=n4_;clear n0_ n1_ n2_ n3_ n4_;clear ho hb hg hat))
       go_roundg kj5
       case measure=>have:=HK1.out;have:=HJ5.out;omega
       case rel=>exact ⟨(y702),(wrap64 (x4_1-1)),(t699),(t700),(t701),(z3_),H',⟨by have:=HK1.out;have:=HJ5.out;omega⟩,⟨by (with_reducible repeat (first | apply Kd.R_alloc | apply Kd.R_drewN | apply Kd.R_drew));exact Kd.R_mono HO704.out (fun _ hk=>trivial)⟩,⟨z33_ HI0.out NB0_697.out⟩,⟨z11_ HK.out GW697.out⟩,⟨z23_ HB.out HI0.out GE697.out⟩⟩
      ·rw [if_neg c12] at H
       exact nO H
     ·replace c9:=Bool.eq_false_iff.mpr c9
      subst c9
      have H1:(some (x3_1,x1000_1,x1001_1,x1002_1))=some (r1,r2,r3,r4):=by rw [if_neg (show ¬ (false=true) by decide)] at H;exact H
      clear H
      have H:=H1
      clear H1
      simp only [Option.some.injEq,Prod.mk.injEq] at H
      obtain ⟨rfl,rfl,rfl,rfl⟩:=H
      go_wp2
      go_ret
      exact ⟨_,z5_,z0_ HO_3.out,z29_ HI0.out,z30_ HB.out HI0.out,z6_ HK.out⟩


/-! ### Y11: function 40 -/
def Y11.j0:Nat→List (S49)→Bool→Option ((List (S49)) × Int)
 | 0,_,_=>none
 | k+1,x4,x27=>if x27=true then (some (([]:List (S49)),3)) else (some (x4,0))
def Y11.f (k:Nat) (a0:ByteArray):Option ((List (S49)) × Int):=if (a0.size:Int)>8000 then (some (([]:List (S49)),2)) else ((Y13.f k a0 0 false).bind fun bt707=>(if bt707.2.2.2=true then (Y11.j0 k bt707.1 true) else (if a0.toList=([]:List UInt8) then (Y11.j0 k bt707.1 true) else ((Y22.f k bt707.1).bind fun t713=>(Y11.j0 k bt707.1 (t713.toList != a0.toList))))))
theorem Y11.mono_l:∀ k,(∀ y0 y1,LeO (Y11.j0 k y0 y1) (Y11.j0 (k+1) y0 y1))
 | 0=>by intros <;> exact LeO.none _
 | k+1=>by
  have ih0:=Y11.mono_l k
  have m0:=@Y22.mono
  have m1:=@Y13.mono
  ·intros
   unfold Y11.j0
   exact mO
theorem Y11.mono:∀ a0 k,LeO (Y11.f k a0) (Y11.f (k+1) a0):=by
 intro a0 k
 have m0:=@Y22.mono
 have m1:=@Y13.mono
 have ih0:=Y11.mono_l k
 unfold Y11.f
 exact mO
theorem Y11.calls (k:Nat) (a0:ByteArray) (r1:List (S49)) (r2:Int) (w:World) (h:Y11.f k a0=some (r1,r2)) :
  Calls Try.prog 40 #[.string a0] w fun e w'=>∃ v0_:Value,e = .returned (.agg #[v0_,.int .i64 r2])∧Kd.R k49 49 w' w.heap.size (fun _=>True) v0_ r1∧Below w.heap.size w w':=by
 have hu53:=Try.underlying53
 have hu99:=Try.underlying99
 have HB:=aM (Below.refl w.heap.size w)
 have H:(if (a0.size:Int)>8000 then (some (([]:List (S49)),2)) else ((Y13.f k a0 0 false).bind fun bt707=>(if bt707.2.2.2=true then (Y11.j0 k bt707.1 true) else (if a0.toList=([]:List UInt8) then (Y11.j0 k bt707.1 true) else ((Y22.f k bt707.1).bind fun t713=>(Y11.j0 k bt707.1 (t713.toList != a0.toList)))))))=some (r1,r2):=h
 clear h
 by_cases c2:(a0.size:Int)>8000
 ·rw [if_pos c2] at H
  have c2b0:decide (8000<(a0.size:Int))=true:=dE c2
  have c2b1:decide (8000<a0.size)=true:=dE (by omega)
  clear c2
  simp only [Option.some.injEq,Prod.mk.injEq] at H
  obtain ⟨rfl,rfl⟩:=H
  go_enter Try.func40,Try.ntmps40
  go_wp2_with (first | ((with_reducible refine gd_ 2 ?_);refine be_ 2 #[.slice none 0 0,.int .i64 0] 53 ?_;intro gb705 hg w3 hbox hb;have n0_:=aM (below_step (z1_ HB.out) hb);have n1_:=aM (hbox);have n2_:=aM ((z8_ HB.out:w.heap.size≤gb705));have n3_:=aM ((z8_ HB.out:w.heap.size≤gb705));clear HB;have HB:=n0_;have BK705:=n1_;have GW705:=n2_;have GE705:=n3_;clear n0_ n1_ n2_ n3_;clear hb hbox hg;have ⟨hcz4_0,hcz4_1,hfz4_0,hfz4_1⟩:=cz2_ BK705.out))
  refine bodyPost_ret (results_cell_row rfl _ _ gb705 53 #[.slice none 0 0,.int .i64 2] (0,0) _ rfl (z15_ BK705.out) Try.underlying53 rfl (by kernel_rfl)) rfl ?_
  exact ⟨_,z5_,z25_,z4_ HB.out GE705.out⟩
 ·rw [if_neg c2] at H
  have c2b0:decide (8000<(a0.size:Int))=false:=dF c2
  have c2b1:decide (8000<a0.size)=false:=dF (by omega)
  clear c2
  replace H:=bS H
  obtain ⟨⟨t707,t710,t711,t712⟩,A50,H⟩:=H
  replace H:(if t712=true then (Y11.j0 k t707 true) else (if a0.toList=([]:List UInt8) then (Y11.j0 k t707 true) else ((Y22.f k t707).bind fun t713=>(Y11.j0 k t707 (t713.toList != a0.toList)))))=some (r1,r2):=H
  have A5:=aM A50
  clear A50
  have HC6:=aM H
  clear H
  go_enter Try.func40,Try.ntmps40
  go_upto_region 5 with (first | ((with_reducible refine gd_ 2 ?_);refine be_ 2 #[.slice none 0 0,.int .i64 0] 53 ?_;intro gb705 hg w7 hbox hb;have n0_:=aM (below_step (z1_ HB.out) hb);have n1_:=aM (hbox);have n2_:=aM ((z8_ HB.out:w.heap.size≤gb705));have n3_:=aM ((z8_ HB.out:w.heap.size≤gb705));clear HB;have HB:=n0_;have BK705:=n1_;have GW705:=n2_;have GE705:=n3_;clear n0_ n1_ n2_ n3_;clear hb hbox hg) | ((with_reducible refine gd_ 11 ?_);refine be_ 11 #[.string a0,.int .i64 0,.bool false] 99 ?_;intro gb706 hg w8 hbox hb;have n0_:=aM (blkB_ BK705.out hb);have n1_:=aM (below_step (z4_ HB.out GE705.out) hb);have n2_:=aM ((show IsS99 w w8 gb706 a0 0 false from ⟨hbox,(z17_ HB.out GE705.out:w.heap.size≤gb706)⟩));have n3_:=aM ((z17_ HB.out GE705.out:w.heap.size≤gb706));have n4_:=aM ((z17_ HB.out GE705.out:w.heap.size≤gb706));have n5_:=aM (neL_ BK705.out hg);have n6_:=aM (neG_ BK705.out hg);clear BK705;clear HB;have BK705:=n0_;have HB:=n1_;have HI706:=n2_;have GW706:=n3_;have GE706:=n4_;have NB705_706:=n5_;have NB706_705:=n6_;clear n0_ n1_ n2_ n3_ n4_ n5_ n6_;clear hb hbox hg) | ((with_reducible refine gc_ 87 ?_);refine gl_ (some 13) Try.func87 #[.pointer (some ⟨gb706,0,none⟩)] ?_;(with_reducible refine (Y13.calls k gb706 a0 0 false t707 t710 t711 t712 w _ ?s1 ?s2 A5.out).mono ?_);(case s1=>repeat (first | (with_reducible first | exact HI706.out | apply IsS99.alloc | apply IsS99.drewN | apply IsS99.drew | apply IsS99.set_0 | apply IsS99.set_1 | apply IsS99.set_2 | refine IsS99.far ?_ (by exact NB706_705.out) _) | exact HI706.out));(case s2=>repeat (first | (with_reducible first | exact HB.out | apply below_alloc | apply pw_below_drewN | apply below_drew1 | refine below_set ?_ (IsS99.ge HI706.out) | refine below_set ?_ GE705.out) | exact HB.out));rintro e w9 ⟨v708,rfl,ho0,hi,hb,hk⟩;refine ⟨_,rfl,?_⟩;have n0_:=aM (KeepBut.blk hk (g':=gb705) (o:=.cells #[.slice none 0 0,.int .i64 0] 53 (0,0)) (z2_ BK705.out) NB705_706.out (by simp));have n1_:=aM (Kd.R_lower ho0 (below_size (z23_ HB.out HI706.out GE705.out)));have n2_:=aM (hb);have n3_:=aM (hi);clear BK705;clear HB;clear HI706;have BK705:=n0_;have HO709:=n1_;have HB:=n2_;have HI706:=n3_;clear n0_ n1_ n2_ n3_;(try clear hb);(try clear hk);(try clear hi);(try clear ho0)))
  (try simp only [Act.put,sa_,s0_,ss_])
  go_cut [27] (fun v27 wc=>∃ (kq:Nat) (x27_5:Bool),v27 = .bool x27_5∧Aside0 (Y11.j0 kq t707 x27_5=some (r1,r2))∧Aside0 (kq≤k)∧Aside0 (Kd.R k49 49 wc w.heap.size (fun _=>True) v708 t707)∧Aside0 (wc.heap[gb705]? = some (.cells #[(.slice none 0 0),.int .i64 0] 53 (0,0)))∧Aside0 (Below w.heap.size w wc))
  case first =>
   have H:=HC6.out
   clear HC6
   by_cases c10:t712=true
   ·subst c10
    have H1:(Y11.j0 k t707 true)=some (r1,r2):=by rw [if_pos rfl] at H;exact H
    clear H
    have H:=H1
    clear H1
    have H':=aM H
    clear H
    obtain ⟨HGz11,hgz11⟩:=HI706.out
    have hcz11_0:=cellS99_0 HGz11
    have hcz11_1:=cellS99_1 HGz11
    have hcz11_2:=cellS99_2 HGz11
    have hfz11_0:=blk_frozen HGz11 0
    have hfz11_1:=blk_frozen HGz11 1
    have hfz11_2:=blk_frozen HGz11 2
    clear HGz11 hgz11
    go_wp2
    go_meet
    case rel=>exact ⟨_,(true),(z3_),H',⟨by first | omega | exact Nat.le_refl _⟩,⟨z0_ HO709.out⟩,⟨z2_ BK705.out⟩,⟨z23_ HB.out HI706.out GE705.out⟩⟩
   ·replace c10:=Bool.eq_false_iff.mpr c10
    subst c10
    have H1:(if a0.toList=([]:List UInt8) then (Y11.j0 k t707 true) else ((Y22.f k t707).bind fun t713=>(Y11.j0 k t707 (t713.toList != a0.toList))))=some (r1,r2):=by rw [if_neg (show ¬ (false=true) by decide)] at H;exact H
    clear H
    have H:=H1
    clear H1
    by_cases c12:a0.toList=([]:List UInt8)
    ·rw [if_pos c12] at H
     have c12b0:(a0.toList == ([]:List UInt8))=true:=beq_iff_eq.mpr c12
     have c12b1:(a0.toList != ([]:List UInt8))=false:=bne_eq_false_iff_eq.mpr c12
     clear c12
     (first | rw [c12b0] | (simp only [i64_w,i32_w];rw [c12b0]) | skip)
     have H':=aM H
     clear H
     obtain ⟨HGz13,hgz13⟩:=HI706.out
     have hcz13_0:=cellS99_0 HGz13
     have hcz13_1:=cellS99_1 HGz13
     have hcz13_2:=cellS99_2 HGz13
     have hfz13_0:=blk_frozen HGz13 0
     have hfz13_1:=blk_frozen HGz13 1
     have hfz13_2:=blk_frozen HGz13 2
     clear HGz13 hgz13
     go_wp2
     go_meet
     case rel=>exact ⟨_,(true),(z3_),H',⟨by first | omega | exact Nat.le_refl _⟩,⟨z0_ HO709.out⟩,⟨z2_ BK705.out⟩,⟨z23_ HB.out HI706.out GE705.out⟩⟩
    ·rw [if_neg c12] at H
     have c12b0:(a0.toList == ([]:List UInt8))=false:=beq_eq_false_iff_ne.mpr c12
     have c12b1:(a0.toList != ([]:List UInt8))=true:=bne_iff_ne.mpr c12
     (first | rw [c12b0] | (simp only [i64_w,i32_w];rw [c12b0]) | skip)
     replace H:=bS H
     obtain ⟨t713,A140,H⟩:=H
     replace H:(Y11.j0 k t707 (t713.toList != a0.toList))=some (r1,r2):=H
     have A14:=aM A140
     clear A140
     have H':=aM H
     clear H
     obtain ⟨HGz15,hgz15⟩:=HI706.out
     have hcz15_0:=cellS99_0 HGz15
     have hcz15_1:=cellS99_1 HGz15
     have hcz15_2:=cellS99_2 HGz15
     have hfz15_0:=blk_frozen HGz15 0
     have hfz15_1:=blk_frozen HGz15 1
     have hfz15_2:=blk_frozen HGz15 2
     clear HGz15 hgz15
     obtain ⟨Ao16,co16,eo16⟩:=Kd.R_slice HO709.out
     subst eo16
     go_wp2_with (first | (go_at_call 39;(with_reducible refine (Y22.calls k _ _ t707 t713 _ ?s1 ?s2 A14.out).mono ?_);(case s1=>repeat (first | exact (Kd.R_reads' HO709.out).2.2 | (with_reducible refine Kd.C_alloc ?_ _) | (with_reducible refine Kd.C_drewN ?_ _) | (with_reducible refine Kd.C_drew ?_)));(case s2=>exact (Kd.R_reads' HO709.out).2.1);rintro e w17 ⟨rfl,hb⟩;have n0_:=aM (Kd.R_below (z0_ HO709.out) hb);have n1_:=aM (blkB_ BK705.out hb);have n2_:=aM (IsS99.below (z33_ HI706.out NB706_705.out) hb);have n3_:=aM (below_step (z23_ HB.out HI706.out GE705.out) hb);clear HO709;clear BK705;clear HI706;clear HB;have HO709:=n0_;have BK705:=n1_;have HI706:=n2_;have HB:=n3_;clear n0_ n1_ n2_ n3_;(try clear hb)))
     go_meet
     case rel=>exact ⟨_,((t713.toList != a0.toList)),(z3_),H',⟨by first | omega | exact Nat.le_refl _⟩,⟨z0_ HO709.out⟩,⟨z2_ BK705.out⟩,⟨z23_ HB.out HI706.out GE705.out⟩⟩
  case rest =>
   clear HC6
   try clear c1
   try clear c2
   try clear c2b0
   try clear c2b1
   try clear p2
   try clear c4
   try clear c8
   try clear c10
   try clear c12
   try clear c12b0
   try clear c12b1
   try clear hcz11_0
   try clear hcz11_1
   try clear hcz11_2
   try clear hcz13_0
   try clear hcz13_1
   try clear hcz13_2
   try clear hcz15_0
   try clear hcz15_1
   try clear hcz15_2
   try clear hcz4_0
   try clear hcz4_1
   try clear hfz11_0
   try clear hfz11_1
   try clear hfz11_2
   try clear hfz13_0
   try clear hfz13_1
   try clear hfz13_2
   try clear hfz15_0
   try clear hfz15_1
   try clear hfz15_2
   try clear hfz4_0
   try clear hfz4_1
   obtain ⟨kq,x27_5,rfl,HA,HJ5,HO_4,BK705,HB⟩:=hcut
   cases kq with
   | zero=>exact absurd HA.out (by simp [Y11.j0])
   | succ kj5 =>
    have H:=HA.out
    clear HA
    simp only [Y11.j0] at H
    by_cases c18:x27_5=true
    ·subst c18
     have H1:(some (([]:List (S49)),3))=some (r1,r2):=by rw [if_pos rfl] at H;exact H
     clear H
     have H:=H1
     clear H1
     simp only [Option.some.injEq,Prod.mk.injEq] at H
     obtain ⟨rfl,rfl⟩:=H
     have ⟨hcz19_0,hcz19_1,hfz19_0,hfz19_1⟩:=cz2_ BK705.out
     go_wp2
     refine bodyPost_ret (results_cell_row rfl _ _ gb705 53 #[.slice none 0 0,.int .i64 3] (0,0) _ rfl (z15_ BK705.out) Try.underlying53 rfl (by kernel_rfl)) rfl ?_
     exact ⟨_,z5_,z25_,z4_ HB.out GE705.out⟩
    ·replace c18:=Bool.eq_false_iff.mpr c18
     subst c18
     have H1:(some (t707,0))=some (r1,r2):=by rw [if_neg (show ¬ (false=true) by decide)] at H;exact H
     clear H
     have H:=H1
     clear H1
     simp only [Option.some.injEq,Prod.mk.injEq] at H
     obtain ⟨rfl,rfl⟩:=H
     obtain ⟨Ao20,co20,eo20⟩:=Kd.R_slice HO_4.out
     subst eo20
     have ⟨hcz21_0,hcz21_1,hfz21_0,hfz21_1⟩:=cz2_ BK705.out
     go_wp2
     refine bodyPost_ret (results_cell_row rfl _ _ gb705 53 #[.slice Ao20 t707.length co20,.int .i64 0] (0,0) _ rfl (z15_ BK705.out) Try.underlying53 rfl (by kernel_rfl)) rfl ?_
     exact ⟨_,z5_,z38_ HO_4.out BK705.out,z4_ HB.out GE705.out⟩

end Go.Proofs.Ytmefchanjoadfaa.P
