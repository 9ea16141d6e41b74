/- Of drawn sets: what is written is stored beside what its writer had not read and in place of what it had; a set is decoded from its encoding, and what is decoded was encoded so; and the program's answers are the reference's. No condition. (Part 5 of 6: written by programs of this workplace and by hand, merged.) -/
import Derived.Test.YtdlmdikfgclhoaaGreatMFnSeta
import Derived.Test.YtdlmdikfgclhoaaGreatMFnSetb
import Derived.Test.YtdlmdikfgclhoaaGreatMFnSetc
import Derived.Test.YtdlmdikfgclhoaaGreatMFnSetd
import Derived.Test.YtdlmdikfgclhoaaGreatMFnSetWWords
import Derived.Test.YtdlmdikfgclhoaaGreatMFnSetWMore
import Derived.Laws.BitsLemmas
set_option linter.unusedVariables false
set_option linter.unusedSimpArgs false
set_option maxHeartbeats 8000000
set_option maxRecDepth 100000
namespace Go.Proofs.YtdlmdikfgclhoaaGreat.P
open Go.RowKit Go.Proofs.YtdlmdikfgclhoaaGreatW.PrintWords Go.Proofs.YtdlmdikfgclhoaaGreatW.PrintLast Go.Proofs.YtdlmdikfgclhoaaGreatW.PrintMore
attribute [local go_sem] a2R a2P a4s a4l a2h a2f a2O a2S
set_option linter.unusedVariables false
set_option linter.unusedSimpArgs false
mutual
def Y14.j0:Nat→List Int→List Int→Bool→Option (Bool)
 | 0,_,_,_=>none
 | k+1,x0,x1,x26=>if x26=true then (some true) else ((Y64.f k x0).bind fun Q2=>((Y55.f k Q2.1 Q2.2.1 Q2.2.2.1 Q2.2.2.2.1 Q2.2.2.2.2.1 Q2.2.2.2.2.2).bind fun S7=>((Y70.f k x1).bind fun BA5=>((Y67.f k BA5.1 BA5.2).bind fun AL7=>((Y73.f k x1).bind fun Ag9=>((Y76.f k Ag9).bind fun AS8=>((Y79.f k x0).bind fun Ak6=>((Y80.f k x1).bind fun Bk9=>((Y18.f k Q2.1 Q2.2.1 Q2.2.2.1 Q2.2.2.2.1 Q2.2.2.2.2.1 Q2.2.2.2.2.2).bind fun BS2=>((Y86.f k S7.1 S7.2.1 S7.2.2.1 S7.2.2.2.1 S7.2.2.2.2 BS2.1 BS2.2.1 BS2.2.2.1 BS2.2.2.2.1 BS2.2.2.2.2).bind fun Cz1=>(if Cz1=true then ((Y62.f k BA5.1 BA5.2).bind fun Ba5=>(if AL7.toList=Ba5.toList then ((Y21.f k Ag9).bind fun BS3=>((Y86.f k AS8.1 AS8.2.1 AS8.2.2.1 AS8.2.2.2.1 AS8.2.2.2.2 BS3.1 BS3.2.1 BS3.2.2.1 BS3.2.2.2.1 BS3.2.2.2.2).bind fun Cz2=>(if Cz2=true then ((Y77.f k Ak6.1 Ak6.2.1 Ak6.2.2.1 Ak6.2.2.2).bind fun BS4=>((Y90.f k Ak6.1 Ak6.2.1 Ak6.2.2.1 Ak6.2.2.2).bind fun BS5=>(if (BS4 != BS5)=true then (none) else ((Y47.f k Bk9.1 Bk9.2).bind fun B09=>((Y44.f k Bk9.1 Bk9.2).bind fun B10=>((Y56.f k B09 B10).bind fun Cz3=>(if Cz3=true then ((Y8.f k Q2.1 Q2.2.1).bind fun BS6=>((Y3.f k Q2.1 Q2.2.1).bind fun BS7=>(if (BS6 != BS7)=true then (none) else (if AL7.toList=([]:List UInt8) then (if AS8.2.2.2.2=0 then ((Y67.f k AS8.1 AS8.2.1).bind fun Ba6=>(Y14.j1 k Q2.2.2.1 (Ba6.toList != Ag9.toList) Q2.1 Q2.2.1 S7.1 S7.2.1 S7.2.2.1 S7.2.2.2.1 S7.2.2.2.2)) else (Y14.j1 k Q2.2.2.1 false Q2.1 Q2.2.1 S7.1 S7.2.1 S7.2.2.1 S7.2.2.2.1 S7.2.2.2.2)) else ((Y76.f k AL7).bind fun Cz4=>((Y57.f k Cz4.1 Cz4.2.1 BA5.1 BA5.2).bind fun Cz5=>(if Cz5=true then (if AS8.2.2.2.2=0 then ((Y67.f k AS8.1 AS8.2.1).bind fun CV0=>(Y14.j1 k Q2.2.2.1 (CV0.toList != Ag9.toList) Q2.1 Q2.2.1 S7.1 S7.2.1 S7.2.2.1 S7.2.2.2.1 S7.2.2.2.2)) else (Y14.j1 k Q2.2.2.1 false Q2.1 Q2.2.1 S7.1 S7.2.1 S7.2.2.1 S7.2.2.2.1 S7.2.2.2.2)) else (none)))))))) else (none)))))))) else (none)))) else (none))) else (none))))))))))))
def Y14.j1:Nat→List (S30)→Bool→List (S30)→List (S48)→List (S30)→List (S48)→Int→Int→Int→Option (Bool)
 | 0,_,_,_,_,_,_,_,_,_=>none
 | k+1,x6,E33,A62,AL8,Ac1,Ak7,Ac2,Ac3,A64=>if E33=true then (none) else (if A64=0 then (Y14.l0 k x6 0 A62 AL8 Ac1 Ak7 Ac2 Ac3 A64) else (some true))
def Y14.l0:Nat→List (S30)→Int→List (S30)→List (S48)→List (S30)→List (S48)→Int→Int→Int→Option (Bool)
 | 0,_,_,_,_,_,_,_,_,_=>none
 | k+1,x6,x18,A62,AL8,Ac1,Ak7,Ac2,Ac3,A64=>if x18<(AL8.length:Int) then (if 0≤x18 then ((Y77.f k Ac1 Ak7 ((aa AL8 x18).f0.f0) ((aa AL8 x18).f0.f1)).bind fun BC3=>((Y36.f k x6 ((aa AL8 x18).f0.f0) ((aa AL8 x18).f0.f1)).bind fun BC4=>(if (BC3 == BC4)=true then (none) else (Y14.l0 k x6 (wrap64 (x18+1)) A62 AL8 Ac1 Ak7 Ac2 Ac3 A64)))) else (none)) else ((Y77.f k Ac1 Ak7 Ac2 Ac3).bind fun Cz6=>(if Cz6=true then ((Y36.f k A62 Ac2 Ac3).bind fun Cz7=>(if Cz7=true then (none) else ((Y84.f k Ac1 Ac2 Ac3).bind fun Cz8=>(some Cz8)))) else (none)))
end
def Y14.f (k:Nat) (l0:List Int) (l1:List Int):Option (Bool):=if (l0.length:Int)>1048576 then (Y14.j0 k l0 l1 true) else (Y14.j0 k l0 l1 (decide ((l1.length:Int)>1048576)))
theorem Y14.aH:∀ k,(∀ y0 y1 y2,LeO (Y14.j0 k y0 y1 y2) (Y14.j0 (k+1) y0 y1 y2))∧(∀ y0 y1 y2 y3 y4 y5 y6 y7 y8,LeO (Y14.j1 k y0 y1 y2 y3 y4 y5 y6 y7 y8) (Y14.j1 (k+1) y0 y1 y2 y3 y4 y5 y6 y7 y8))∧(∀ y0 y1 y2 y3 y4 y5 y6 y7 y8,LeO (Y14.l0 k y0 y1 y2 y3 y4 y5 y6 y7 y8) (Y14.l0 (k+1) y0 y1 y2 y3 y4 y5 y6 y7 y8))
 | 0=>by refine ⟨?_,?_,?_⟩ <;> intros <;> exact LeO.none _
 | k+1=>by
  obtain ⟨ih0,ih1,ih2⟩:=Y14.aH k;have m0:=@Y84.mono;have m1:=@Y67.mono;have m2:=@Y77.mono;have m3:=@Y55.mono;have m4:=@Y76.mono;have m5:=@Y8.mono;have m6:=@Y47.mono;have m7:=@Y57.mono;have m8:=@Y86.mono;have m9:=@Y56.mono;have m10:=@Y70.mono;have m11:=@Y79.mono;have m12:=@Y64.mono;have m13:=@Y73.mono;have m14:=@Y80.mono;have m15:=@Y36.mono;have m16:=@Y62.mono;have m17:=@Y90.mono;have m18:=@Y18.mono;have m19:=@Y21.mono;have m20:=@Y3.mono;have m21:=@Y44.mono;refine ⟨?_,?_,?_⟩
  ·intros;unfold Y14.j0;exact mO
  ·intros;unfold Y14.j1;exact mO
  ·intros;unfold Y14.l0;exact mO
theorem Y14.mono:∀ a0 a1 k,LeO (Y14.f k a0 a1) (Y14.f (k+1) a0 a1):=by
 intro a0 a1 k;have m0:=@Y84.mono;have m1:=@Y67.mono;have m2:=@Y77.mono;have m3:=@Y55.mono;have m4:=@Y76.mono;have m5:=@Y8.mono;have m6:=@Y47.mono;have m7:=@Y57.mono;have m8:=@Y86.mono;have m9:=@Y56.mono;have m10:=@Y70.mono;have m11:=@Y79.mono;have m12:=@Y64.mono;have m13:=@Y73.mono;have m14:=@Y80.mono;have m15:=@Y36.mono;have m16:=@Y62.mono;have m17:=@Y90.mono;have m18:=@Y18.mono;have m19:=@Y21.mono;have m20:=@Y3.mono;have m21:=@Y44.mono;obtain ⟨ih0,ih1,ih2⟩:=Y14.aH k;unfold Y14.f;exact mO
def Y14.T11:RT:=(true,[([],[]),([],[]),([],[]),([],[]),([],[]),([],[]),([1,2,3,4,5],[1,2,3,4,5]),([0,6,6],[0,6]),([7],[7]),([8,7],[8]),([9],[9]),([9],[9]),([11,9,9],[9,11]),([10,12,9],[9,10,12]),([9,13],[9,13]),([14,12],[14]),([15],[15]),([15],[15]),([17,15,15],[15,17]),([16,18,18,15],[15,16,18]),([19,15],[15,19]),([15,20],[15,20]),([21,19],[21]),([22],[22]),([22],[22]),([23,24,22,22],[22,23,24]),([22],[22]),([22],[22]),([26,27,25,22],[22,26,27]),([25,28,22],[22,25,28]),([22,29],[22,29]),([30,28],[30]),([31],[31]),([32,31,31],[31,32]),([31],[31]),([34,33,31],[31,34]),([33,35,35,31],[31,33,35]),([36,31],[31,36]),([31,37],[31,37]),([38,36],[38]),([39],[39]),([40,39,39],[39,40]),([39],[39]),([42,41,39],[39,42]),([41,43,39],[39,41,43]),([39,44],[39,44])])
def Y14.T13:RT:=(true,[([],[]),([0],[0]),([1],[1]),([2],[2]),([3,2,2],[2,3]),([4,2],[2,4]),([2],[2]),([5,6,4,2],[2,5,6]),([7,2],[2,7]),([2,8],[2,8]),([9,7],[9]),([10],[10]),([11,10],[10,11]),([12,10],[10,12]),([13,10,10],[10,13]),([14],[14]),([15,14],[14,15]),([16,14,14],[14,16]),([14],[14]),([17,18,14],[14,17,18]),([14,19,10],[10,14,19]),([10,20],[10,20])])
def Y14.T20:RT:=(true,[([],[]),([0],[0]),([],[]),([2],[2]),([],[]),([3,4],[3,4]),([5],[5]),([6],[6]),([1,7],[1,7]),([],[]),([],[]),([10],[10]),([],[]),([11,12],[11,12]),([13],[13]),([14],[14]),([9,15,8],[9,15]),([8,16],[8,16])])
abbrev Y14.q17:Array Bool:=#[I,I,I,I,I,I,I,I,I,I,I,I,I,I,I,I,O,O,I,O,O,O]
abbrev Y14.q18:Array Bool:=#[I,I,I,I,I,I,I,I,I,I,I,I,I,I,I,I,I,O,I,O,O,O]
abbrev Y14.q25:Array Bool:=#[I,I,I,I,O,O,I,O,O,O,O,O,O,O,O,O,O,O,O,O,O,O]
abbrev Y14.q26:Array Bool:=#[I,I,I,I,I,O,I,O,O,O,O,O,O,O,O,O,O,O,O,O,O,O]
theorem Y14.calls (k:Nat) (A0:Option Addr) (c0:Nat) (l0:List Int) (A1:Option Addr) (c1:Nat) (l1:List Int) (r:Bool) (w:World) (hr0:Kd.C (Kd.int .u8) w A0 l0.length l0) (hc0:l0.length≤c0) (hr1:Kd.C (Kd.int .u8) w A1 l1.length l1) (hc1:l1.length≤c1) (h:Y14.f k l0 l1=some r) :
  Calls Tryz.prog 3 #[.slice A0 l0.length c0,.slice A1 l1.length c1] w fun e w'=>e = .returned (.bool r)∧Below w.heap.size w w':=by
 (have hfd32_0:∀ (y0:Value) (y1:Value) (y2:Int) (y3:Int) (y4:Int) (w:World),(Instr.field 32 (.agg #[y0,y1,.int .i64 y2,.int .i64 y3,.int .i64 y4]) 0).run Tryz.prog w = .ok (.agg #[y0,y1]) w:=fun _ _ _ _ _ _=>by kernel_rfl);have AH1:=Tryz.underlying26;have BT3:=Tryz.underlying32;have p9:=Tryz.underlying30;have HR0:=aM hr0;have HC0:=aM hc0;clear hr0 hc0;have HR1:=aM hr1;have HC1:=aM hc1;clear hr1 hc1;have HB:=aM (Below.refl w.heap.size w);have H:(if (l0.length:Int)>1048576 then (Y14.j0 k l0 l1 true) else (Y14.j0 k l0 l1 (decide ((l1.length:Int)>1048576))))=some r:=h;clear h;have HC3:=aM H;clear H;go_enter Tryz.func3,Tryz.ntmps3;go_upto_region 1 with (fail);go_cut [26] (fun v26 wc=>∃ (kq:Nat) (CV1:Bool),v26 = .bool CV1∧af (Y14.j0 kq l0 l1 CV1=some r)∧af (kq≤k)∧af (Below w.heap.size w wc))
 case first=>as_aux_lemma =>
  have H:=HC3.out;clear HC3;by_cases c4:(l0.length:Int)>1048576
  ·rw [if_pos c4] at H;have ec:decide (1048576<(l0.length:Int))=true:=dE c4;have a9D:decide (1048576<l0.length)=true:=dE (by omega);clear c4;(first | rw [ec] | (simp only [aV,aZ];rw [ec]) | skip);have H':=aM H;clear H;go_wp2;go_meet;case rel=>exact ⟨_,(true),(z3_),H',⟨by first | omega | exact Nat.le_refl _⟩,⟨dm HB.out⟩⟩
  ·rw [if_neg c4] at H;have ec:decide (1048576<(l0.length:Int))=false:=dF c4;have a9D:decide (1048576<l0.length)=false:=dF (by omega);clear c4;(first | rw [ec] | (simp only [aV,aZ];rw [ec]) | skip);have H':=aM H;clear H;go_wp2;go_meet;case rel=>exact ⟨_,(decide ((l1.length:Int)>1048576)),(z3_),H',⟨by first | omega | exact Nat.le_refl _⟩,⟨dm HB.out⟩⟩
 case rest=>as_aux_lemma =>
  clear HC3;obtain ⟨kq,CV1,rfl,HA,HJ2,HB⟩:=hcut
  cases kq with
  | zero=>exact absurd HA.out (by simp [Y14.j0])
  | succ kj2 =>
   have H:=HA.out;clear HA;simp only [Y14.j0] at H;by_cases c5:CV1=true
   ·subst c5;replace H:=fP H;obtain rfl:=sI H;go_wp2;go_ret;exact ⟨z5_,dm HB.out⟩
   ·obtain rfl:=bF c5;replace H:=fN H;obtain ⟨⟨O2,J5,R0,B11,B12,B13⟩,A6,H⟩:=bA H;(try dsimp only at H);obtain ⟨⟨P3,R1,AW1,AW2,AS9⟩,A7,H⟩:=bA H;(try dsimp only at H);obtain ⟨⟨Q0,R4⟩,A8,H⟩:=bA H;(try dsimp only at H);obtain ⟨AL7,A9,H⟩:=bA H;obtain ⟨Ag9,A10,H⟩:=bA H;obtain ⟨⟨R5,U5,BS8,BS9,AL9⟩,A11,H⟩:=bA H;(try dsimp only at H);obtain ⟨⟨R2,U2,AW3,AW4⟩,A12,H⟩:=bA H;(try dsimp only at H);obtain ⟨⟨U0,V8⟩,A13,H⟩:=bA H;(try dsimp only at H);obtain ⟨⟨Cz9,C00,C01,C02,C03⟩,A14,H⟩:=bA H;(try dsimp only at H);obtain ⟨Cz1,A15,H⟩:=bA H;by_cases c16:Cz1=true
    ·subst c16;replace H:=fP H;obtain ⟨Ba5,A17,H⟩:=bA H;by_cases c18:AL7.toList=Ba5.toList
     ·rw [if_pos c18] at H;have a4N:(AL7.toList == Ba5.toList)=true:=beq_iff_eq.mpr c18;have a8T:(AL7.toList != Ba5.toList)=false:=bne_eq_false_iff_eq.mpr c18;clear c18;obtain ⟨⟨C04,C05,C06,C07,C08⟩,A19,H⟩:=bA H;(try dsimp only at H);obtain ⟨Cz2,A20,H⟩:=bA H;by_cases c21:Cz2=true
      ·subst c21;replace H:=fP H;obtain ⟨BS4,A22,H⟩:=bA H;obtain ⟨BS5,A23,H⟩:=bA H;by_cases c24:(BS4 != BS5)=true
       ·rw [if_pos c24] at H;exact nO H
       ·rw [if_neg c24] at H;(have a3A:(BS4 != BS5)=false:=by simpa using c24);(try (have c2u:decide (BS4=BS5)=true:=by simpa using c24));(try (have c2v:(BS4 == BS5)=true:=by simpa using c24));clear c24;obtain ⟨B09,A25,H⟩:=bA H;obtain ⟨B10,A26,H⟩:=bA H;obtain ⟨Cz3,A27,H⟩:=bA H;by_cases c28:Cz3=true
        ·subst c28;replace H:=fP H;obtain ⟨BS6,A29,H⟩:=bA H;obtain ⟨BS7,A30,H⟩:=bA H;by_cases c31:(BS6 != BS7)=true
         ·rw [if_pos c31] at H;exact nO H
         ·rw [if_neg c31] at H;(have a5G:(BS6 != BS7)=false:=by simpa using c31);(try (have b3p:decide (BS6=BS7)=true:=by simpa using c31));(try (have c2w:(BS6 == BS7)=true:=by simpa using c31));clear c31;have D85:=aM H;clear H;(try go_wp2_with (first | ((with_reducible refine gc_ 4 ?_);refine gl_ (some 29) Tryz.func4 #[.slice A0 l0.length c0] ?_;(with_reducible refine (Y64.calls kj2 _ _ l0 O2 J5 R0 B11 B12 B13 _ ?s1 ?s2 A6.out).mono ?_);(case s1=>exact z6_ HR0.out HB.out);(case s2=>exact HC0.out);rintro e w33 ⟨c2x,c2y,c2z,rfl,ho0,ho1,ho2,hb⟩;refine ⟨_,rfl,?_⟩;have C3:=rL_ ho0 HB;have C4:=rL_ ho1 HB;have C7:=rL_ ho2 HB;replace HB:=hB_ HB hb) | ((with_reducible refine gd_ 5 ?_);(try (refine bq (by rfl) ?_;dsimp only));refine be_ 5 #[.slice none 0 0,.slice none 0 0] 26 ?_;intro BA6 hg w34 ay hb;replace C3:=rB_ C3 hb;replace C4:=rB_ C4 hb;replace C7:=rB_ C7 hb;have B5:=aM (ay);have GW1109:=gE_ HB hg;have GE1109:=gE_ HB hg;replace HB:=hB_ HB hb;clear hb ay hg;obtain ⟨AB2,l8,Dr9⟩:=Kd.aE C3.out;subst Dr9;have ⟨Az9,A00,A01,A02⟩:=bu B5.out;obtain ⟨AJ2,AG0,E34⟩:=Kd.aE C4.out;subst E34;obtain ⟨AM0,AG4,DI6⟩:=Kd.aE C7.out;subst DI6) | ((with_reducible refine gc_ 5 ?_);refine gl_ (some 40) Tryz.func5 #[.agg #[.slice AB2 O2.length l8,.slice AJ2 J5.length AG0],.slice AM0 R0.length AG4,.int .i64 B11,.string B12,.bool B13] ?_;(with_reducible refine (Y55.calls kj2 _ _ O2 _ _ J5 _ _ R0 B11 B12 B13 P3 R1 AW1 AW2 AS9 _ ?s1 ?s2 ?s3 ?s4 ?s5 ?s6 A7.out).mono ?_);(case s1=>refine (Kd.aA (e:=30) (base:=w.heap.size) (ok:=fun k_=>some k_≠(.slice AM0 R0.length AG4:Value).ownBlock) (n:=O2.length) (c:=l8) ?_).2.2;exact (by (with_reducible repeat (first | apply Kd.aQ | apply Kd.aN | apply Kd.aW));exact (Kd.az (eN (Kd.bf C3.out B5.out (by decide)) (fun _ hk=>hk.2)) (fun _ h_=>h_.1))));(case s2=>exact (Kd.aA C3.out).2.1);(case s3=>refine (Kd.aA (e:=48) (base:=w.heap.size) (ok:=fun k_=>True) (n:=J5.length) (c:=AG0) ?_).2.2;exact (by (with_reducible repeat (first | apply Kd.aQ | apply Kd.aN | apply Kd.aW));exact (Kd.az (eN (Kd.bf C4.out B5.out (by decide)) (fun _ hk=>hk.2)) (fun _ h_=>h_.1))));(case s4=>exact (Kd.aA C4.out).2.1);(case s5=>refine (Kd.aA (e:=30) (base:=w.heap.size) (ok:=fun k_=>some k_≠(.slice AB2 O2.length l8:Value).ownBlock) (n:=R0.length) (c:=AG4) ?_).2.2;exact (by (with_reducible repeat (first | apply Kd.aQ | apply Kd.aN | apply Kd.aW));exact (Kd.az (eN (Kd.bf C7.out B5.out (by decide)) (fun _ hk=>hk.2)) (fun _ h_=>h_.1))));(case s6=>exact (Kd.aA C7.out).2.1);rintro e w39 ⟨c2A,c2B,rfl,ho0,ho1,hb⟩;refine ⟨_,rfl,?_⟩;have D3:=aM (Kd.bl (Kd.aJ (Kd.aJ ho0 (Kd.bH (fj C3.out B5.out))) (Kd.bH (fj C7.out B5.out))) (aI (z2_ HB.out)));replace C3:=aM (Kd.bL (fj C3.out B5.out) (Kd.cB ho0) hb);replace C7:=aM (Kd.bL (fj C7.out B5.out) (Kd.cB ho0) hb);have D4:=aM (Kd.bl (Kd.aJ ho1 (Kd.bH (fj C4.out B5.out))) (aI (z2_ HB.out)));replace C4:=aM (Kd.bL (fj C4.out B5.out) (Kd.cB ho1) hb);replace B5:=aM (cw (g:=BA6) (o:=.cells #[.slice AB2 O2.length l8,.slice AJ2 J5.length AG0] 26 (0,0)) (eW B5.out) hb);replace HB:=hB_ HB hb) | ((with_reducible refine gd_ 10 ?_);(try (refine bq (by rfl) ?_;dsimp only));refine be_ 10 #[.slice none 0 0,.slice none 0 0,.int .i64 0,.int .i64 0,.int .i64 0] 32 ?_;intro Ag3 hg w40 ay hb;replace C3:=rB_ C3 hb;replace C4:=rB_ C4 hb;replace C7:=rB_ C7 hb;replace D3:=rB_ D3 hb;replace D4:=rB_ D4 hb;have B6:=aM (ay);have GW1119:=gE_ HB hg;have GE1119:=gE_ HB hg;replace HB:=hB_ HB hb;have AM1:=nL_ B5 hg;have AM2:=nG_ B5 hg;replace B5:=kB_ B5 hb;clear hb ay hg;obtain ⟨AE3,AC7,Dw9⟩:=Kd.aE D3.out;subst Dw9;have Dg1:=AM2.out;have Dg2:=AM1.out;have ⟨CB0,CB1,hcz43_2,hcz43_3,hcz43_4,CB2,CB3,hfz43_2,hfz43_3,hfz43_4⟩:=eD B6.out;obtain ⟨AC8,AC9,D52⟩:=Kd.aE D4.out;subst D52) | ((with_reducible refine gc_ 6 ?_);refine gl_ (some 42) Tryz.func6 #[.slice A1 l1.length c1] ?_;(with_reducible refine (Y70.calls kj2 _ _ l1 Q0 R4 _ ?s1 ?s2 A8.out).mono ?_);(case s1=>exact Kd.a0t HR1.out (z2_ HB.out));(case s2=>exact HC1.out);rintro e w45 ⟨c2C,c2D,rfl,ho0,ho1,hb⟩;refine ⟨_,rfl,?_⟩;have D0:=aM (Kd.bl (Kd.aJ (Kd.aJ (Kd.aJ ho0 (Kd.bH (eI C3.out B6.out))) (Kd.bH (eI C7.out B6.out))) (Kd.bH (eI D3.out B6.out))) (aI (z2_ HB.out)));replace C3:=aM (Kd.bL (eI C3.out B6.out) (Kd.cB ho0) hb);replace C7:=aM (Kd.bL (eI C7.out B6.out) (Kd.cB ho0) hb);replace D3:=aM (Kd.bL (eI D3.out B6.out) (Kd.cB ho0) hb);have D1:=aM (Kd.bl (Kd.aJ (Kd.aJ ho1 (Kd.bH (eI C4.out B6.out))) (Kd.bH (eI D4.out B6.out))) (aI (z2_ HB.out)));replace C4:=aM (Kd.bL (eI C4.out B6.out) (Kd.cB ho1) hb);replace D4:=aM (Kd.bL (eI D4.out B6.out) (Kd.cB ho1) hb);replace B5:=kB_ B5 hb;replace B6:=aM (cw (g:=Ag3) (o:=.cells #[.slice AE3 P3.length AC7,.slice AC8 R1.length AC9,.int .i64 AW1,.int .i64 AW2,.int .i64 AS9] 32 (0,0)) (fm B6.out) hb);replace HB:=hB_ HB hb) | ((with_reducible refine gd_ 11 ?_);(try (refine bq (by rfl) ?_;dsimp only));refine be_ 11 #[.slice none 0 0,.slice none 0 0] 26 ?_;intro Bl0 hg w46 ay hb;replace C3:=rB_ C3 hb;replace C4:=rB_ C4 hb;replace C7:=rB_ C7 hb;replace D3:=rB_ D3 hb;replace D4:=rB_ D4 hb;replace D0:=rB_ D0 hb;replace D1:=rB_ D1 hb;have B8:=aM (ay);have GW1126:=gE_ HB hg;have GE1126:=gE_ HB hg;replace HB:=hB_ HB hb;have Ak8:=nL_ B5 hg;have Ak9:=nG_ B5 hg;replace B5:=kB_ B5 hb;have AW5:=nL_ B6 hg;have AW6:=nG_ B6 hg;replace B6:=kB_ B6 hb;clear hb ay hg;obtain ⟨AG1,AE4,E35⟩:=Kd.aE D0.out;subst E35;have DX3:=Ak9.out;have DX4:=Ak8.out;have DX5:=AW6.out;have DX6:=AW5.out;have ⟨CB4,CB5,CB6,CB7⟩:=bu B8.out;obtain ⟨AM3,AJ3,E36⟩:=Kd.aE D1.out;subst E36) | ((with_reducible refine gc_ 7 ?_);refine gl_ (some 44) Tryz.func7 #[.agg #[.slice AG1 Q0.length AE4,.slice AM3 R4.length AJ3]] ?_;(with_reducible refine (Y67.calls kj2 _ _ Q0 _ _ R4 AL7 _ ?s1 ?s2 ?s3 ?s4 A9.out).mono ?_);(case s1=>refine (Kd.aA (e:=30) (base:=w.heap.size) (ok:=fun k_=>(((True∧some k_≠(.slice AB2 O2.length l8:Value).ownBlock)∧some k_≠(.slice AM0 R0.length AG4:Value).ownBlock)∧some k_≠(.slice AE3 P3.length AC7:Value).ownBlock)) (n:=Q0.length) (c:=AE4) ?_).2.2;exact (by (with_reducible repeat (first | apply Kd.aQ | apply Kd.aN | apply Kd.aW));exact (Kd.az (eN (Kd.bf D0.out B8.out (by decide)) (fun _ hk=>hk.2)) (fun _ h_=>h_.1))));(case s2=>exact (Kd.aA D0.out).2.1);(case s3=>refine (Kd.aA (e:=48) (base:=w.heap.size) (ok:=fun k_=>((True∧some k_≠(.slice AJ2 J5.length AG0:Value).ownBlock)∧some k_≠(.slice AC8 R1.length AC9:Value).ownBlock)) (n:=R4.length) (c:=AJ3) ?_).2.2;exact (by (with_reducible repeat (first | apply Kd.aQ | apply Kd.aN | apply Kd.aW));exact (Kd.az (eN (Kd.bf D1.out B8.out (by decide)) (fun _ hk=>hk.2)) (fun _ h_=>h_.1))));(case s4=>exact (Kd.aA D1.out).2.1);rintro e w52 ⟨rfl,hb⟩;refine ⟨_,rfl,?_⟩;replace C3:=aM (Kd.cV (fj C3.out B8.out) hb);replace C4:=aM (Kd.cV (fj C4.out B8.out) hb);replace C7:=aM (Kd.cV (fj C7.out B8.out) hb);replace D3:=aM (Kd.cV (fj D3.out B8.out) hb);replace D4:=aM (Kd.cV (fj D4.out B8.out) hb);replace D0:=aM (Kd.cV (fj D0.out B8.out) hb);replace D1:=aM (Kd.cV (fj D1.out B8.out) hb);replace B5:=kB_ B5 hb;replace B6:=kB_ B6 hb;replace B8:=aM (cw (g:=Bl0) (o:=.cells #[.slice AG1 Q0.length AE4,.slice AM3 R4.length AJ3] 26 (0,0)) (eW B8.out) hb);replace HB:=hB_ HB hb) | ((with_reducible refine gc_ 8 ?_);refine gl_ (some 46) Tryz.func8 #[.slice A1 l1.length c1] ?_;(with_reducible refine (Y73.calls kj2 _ _ l1 Ag9 _ ?s1 ?s2 A10.out).mono ?_);(case s1=>exact z6_ HR1.out HB.out);(case s2=>exact HC1.out);rintro e w53 ⟨rfl,hb⟩;refine ⟨_,rfl,?_⟩;replace C3:=rB_ C3 hb;replace C4:=rB_ C4 hb;replace C7:=rB_ C7 hb;replace D3:=rB_ D3 hb;replace D4:=rB_ D4 hb;replace D0:=rB_ D0 hb;replace D1:=rB_ D1 hb;replace B5:=kB_ B5 hb;replace B6:=kB_ B6 hb;replace B8:=kB_ B8 hb;replace HB:=hB_ HB hb) | ((with_reducible refine gc_ 9 ?_);refine gl_ (some 48) Tryz.func9 #[.string Ag9] ?_;(with_reducible refine (Y76.calls kj2 Ag9 R5 U5 BS8 BS9 AL9 _ A11.out).mono ?_);rintro e w54 ⟨c2E,c2F,rfl,ho0,ho1,hb⟩;refine ⟨_,rfl,?_⟩;have E0:=aM (Kd.bl (Kd.aJ (Kd.aJ (Kd.aJ (Kd.aJ ho0 (Kd.bH (z1_ C3.out))) (Kd.bH (z1_ C7.out))) (Kd.bH (z1_ D3.out))) (Kd.bH (z1_ D0.out))) (aI (z2_ HB.out)));replace C3:=rE_ C3 ho0 hb;replace C7:=rE_ C7 ho0 hb;replace D3:=rE_ D3 ho0 hb;replace D0:=rE_ D0 ho0 hb;have E1:=aM (Kd.bl (Kd.aJ (Kd.aJ (Kd.aJ ho1 (Kd.bH (z1_ C4.out))) (Kd.bH (z1_ D4.out))) (Kd.bH (z1_ D1.out))) (aI (z2_ HB.out)));replace C4:=rE_ C4 ho1 hb;replace D4:=rE_ D4 ho1 hb;replace D1:=rE_ D1 ho1 hb;replace B5:=kB_ B5 hb;replace B6:=kB_ B6 hb;replace B8:=kB_ B8 hb;replace HB:=hB_ HB hb) | ((with_reducible refine gd_ 14 ?_);(try (refine bq (by rfl) ?_;dsimp only));refine be_ 14 #[.slice none 0 0,.slice none 0 0,.int .i64 0,.int .i64 0,.int .i64 0] 32 ?_;intro Bl1 hg w55 ay hb;replace C3:=rB_ C3 hb;replace C4:=rB_ C4 hb;replace C7:=rB_ C7 hb;replace D3:=rB_ D3 hb;replace D4:=rB_ D4 hb;replace D0:=rB_ D0 hb;replace D1:=rB_ D1 hb;replace E0:=rB_ E0 hb;replace E1:=rB_ E1 hb;have B7:=aM (ay);have GW1138:=gE_ HB hg;have GE1138:=gE_ HB hg;replace HB:=hB_ HB hb;have Al0:=nL_ B5 hg;have Al1:=nG_ B5 hg;replace B5:=kB_ B5 hb;have AW7:=nL_ B6 hg;have AW8:=nG_ B6 hg;replace B6:=kB_ B6 hb;have B14:=nL_ B8 hg;have B15:=nG_ B8 hg;replace B8:=kB_ B8 hb;clear hb ay hg;obtain ⟨AF8,AF9,D75⟩:=Kd.aE E0.out;subst D75;have ET2:=Al1.out;have ET3:=Al0.out;have ET4:=AW8.out;have ET5:=AW7.out;have hnb59:=B15.out;have hnc59:=B14.out;have ⟨DS6,DS7,DS8,hcz60_3,hcz60_4,DS9,DT0,DT1,hfz60_3,hfz60_4⟩:=eD B7.out;obtain ⟨AJ0,AJ1,D76⟩:=Kd.aE E1.out;subst D76) | ((with_reducible refine gc_ 10 ?_);refine gl_ (some 51) Tryz.func10 #[.slice A0 l0.length c0] ?_;(with_reducible refine (Y79.calls kj2 _ _ l0 R2 U2 AW3 AW4 _ ?s1 ?s2 A12.out).mono ?_);(case s1=>exact Kd.a0t HR0.out (z2_ HB.out));(case s2=>exact HC0.out);rintro e w62 ⟨c2G,c2H,rfl,ho0,ho1,hb⟩;refine ⟨_,rfl,?_⟩;have E7:=aM (Kd.bl (Kd.aJ (Kd.aJ (Kd.aJ (Kd.aJ (Kd.aJ ho0 (Kd.bH (eI C3.out B7.out))) (Kd.bH (eI C7.out B7.out))) (Kd.bH (eI D3.out B7.out))) (Kd.bH (eI D0.out B7.out))) (Kd.bH (eI E0.out B7.out))) (aI (z2_ HB.out)));replace C3:=aM (Kd.bL (eI C3.out B7.out) (Kd.cB ho0) hb);replace C7:=aM (Kd.bL (eI C7.out B7.out) (Kd.cB ho0) hb);replace D3:=aM (Kd.bL (eI D3.out B7.out) (Kd.cB ho0) hb);replace D0:=aM (Kd.bL (eI D0.out B7.out) (Kd.cB ho0) hb);replace E0:=aM (Kd.bL (eI E0.out B7.out) (Kd.cB ho0) hb);have E8:=aM (Kd.bl (Kd.aJ (Kd.aJ (Kd.aJ (Kd.aJ ho1 (Kd.bH (eI C4.out B7.out))) (Kd.bH (eI D4.out B7.out))) (Kd.bH (eI D1.out B7.out))) (Kd.bH (eI E1.out B7.out))) (aI (z2_ HB.out)));replace C4:=aM (Kd.bL (eI C4.out B7.out) (Kd.cB ho1) hb);replace D4:=aM (Kd.bL (eI D4.out B7.out) (Kd.cB ho1) hb);replace D1:=aM (Kd.bL (eI D1.out B7.out) (Kd.cB ho1) hb);replace E1:=aM (Kd.bL (eI E1.out B7.out) (Kd.cB ho1) hb);replace B5:=kB_ B5 hb;replace B6:=kB_ B6 hb;replace B8:=kB_ B8 hb;replace B7:=aM (cw (g:=Bl1) (o:=.cells #[.slice AF8 R5.length AF9,.slice AJ0 U5.length AJ1,.int .i64 BS8,.int .i64 BS9,.int .i64 AL9] 32 (0,0)) (fm B7.out) hb);replace HB:=hB_ HB hb) | ((with_reducible refine gd_ 15 ?_);(try (refine bq (by rfl) ?_;dsimp only));refine be_ 15 #[.slice none 0 0,.slice none 0 0] 26 ?_;intro Ah3 hg w63 ay hb;replace C3:=rB_ C3 hb;replace C4:=rB_ C4 hb;replace C7:=rB_ C7 hb;replace D3:=rB_ D3 hb;replace D4:=rB_ D4 hb;replace D0:=rB_ D0 hb;replace D1:=rB_ D1 hb;replace E0:=rB_ E0 hb;replace E1:=rB_ E1 hb;replace E7:=rB_ E7 hb;replace E8:=rB_ E8 hb;have C0:=aM (ay);have GW1147:=gE_ HB hg;have GE1147:=gE_ HB hg;replace HB:=hB_ HB hb;have Al2:=nL_ B5 hg;have Al3:=nG_ B5 hg;replace B5:=kB_ B5 hb;have AW9:=nL_ B6 hg;have AX0:=nG_ B6 hg;replace B6:=kB_ B6 hb;have B16:=nL_ B8 hg;have B17:=nG_ B8 hg;replace B8:=kB_ B8 hb;have B18:=nL_ B7 hg;have B19:=nG_ B7 hg;replace B7:=kB_ B7 hb;clear hb ay hg) | ((with_reducible refine gd_ 16 ?_);(try (refine bq (by rfl) ?_;dsimp only));refine be_ 16 #[.int .i64 0,.int .i64 0] 30 ?_;intro L7 hg w64 ay hb;replace C3:=aM (Kd.cV (Kd.a0K (z1_ C3.out) L7 (Nat.le_of_eq hg.symm)) hb);replace C4:=rB_ C4 hb;replace C7:=aM (Kd.cV (Kd.a0K (z1_ C7.out) L7 (Nat.le_of_eq hg.symm)) hb);replace D3:=aM (Kd.cV (Kd.a0K (z1_ D3.out) L7 (Nat.le_of_eq hg.symm)) hb);replace D4:=rB_ D4 hb;replace D0:=aM (Kd.cV (Kd.a0K (z1_ D0.out) L7 (Nat.le_of_eq hg.symm)) hb);replace D1:=rB_ D1 hb;replace E0:=aM (Kd.cV (Kd.a0K (z1_ E0.out) L7 (Nat.le_of_eq hg.symm)) hb);replace E1:=rB_ E1 hb;replace E7:=aM (Kd.cV (Kd.a0K (z1_ E7.out) L7 (Nat.le_of_eq hg.symm)) hb);replace E8:=rB_ E8 hb;have C2:=aM (ay);have GW1148:=gE_ HB hg;have GE1148:=gE_ HB hg;replace HB:=hB_ HB hb;have Al4:=nL_ B5 hg;have Al5:=nG_ B5 hg;replace B5:=kB_ B5 hb;have AX1:=nL_ B6 hg;have AX2:=nG_ B6 hg;replace B6:=kB_ B6 hb;have B20:=nL_ B8 hg;have B21:=nG_ B8 hg;replace B8:=kB_ B8 hb;have B22:=nL_ B7 hg;have B23:=nG_ B7 hg;replace B7:=kB_ B7 hb;have Al6:=nL_ C0 hg;have Al7:=nG_ C0 hg;replace C0:=kB_ C0 hb;clear hb ay hg;obtain ⟨j7,j8,CV8⟩:=Kd.aE E7.out;subst CV8;have Dg7:=Al3.out;have Dg8:=Al2.out;have Cd8:=AX0.out;have Cd9:=AW9.out;have DX9:=B17.out;have DY0:=B16.out;have EO3:=B19.out;have EO4:=B18.out;have Da4:=Al6.out;have Da5:=Al7.out;have ⟨DM0,DM1,DM2,DM3⟩:=bu C0.out;obtain ⟨AK4,AK5,E37⟩:=Kd.aE E8.out;subst E37;have hnb73:=Al5.out;have hnc73:=Al4.out;have DV9:=AX2.out;have DW0:=AX1.out;have Eb3:=B21.out;have Eb4:=B20.out;have Dd7:=B23.out;have Dd8:=B22.out;have ⟨DM4,DM5,DM6,DM7⟩:=bu C2.out) | ((with_reducible refine gc_ 11 ?_);refine gl_ (some 55) Tryz.func11 #[.slice A1 l1.length c1] ?_;(with_reducible refine (Y80.calls kj2 _ _ l1 U0 V8 _ ?s1 ?s2 A13.out).mono ?_);(case s1=>exact Kd.a0t HR1.out (z2_ HB.out));(case s2=>exact HC1.out);rintro e w78 ⟨c2I,c2J,rfl,ho0,ho1,hb⟩;refine ⟨_,rfl,?_⟩;have F2:=aM (Kd.bl (Kd.a1p (Kd.aJ (Kd.aJ (Kd.aJ (Kd.aJ (Kd.aJ (Kd.aJ ho0 (Kd.bH (a6M C3.out C0.out))) (Kd.bH (a6M C7.out C0.out))) (Kd.bH (a6M D3.out C0.out))) (Kd.bH (a6M D0.out C0.out))) (Kd.bH (a6M E0.out C0.out))) (Kd.bH (a6M E7.out C0.out))) (g:=L7) (o:=.cells #[.int .i64 AW3,.int .i64 AW4] 30 (0,0)) (b5e Al7.out C2.out)) (aI (z2_ HB.out)));replace C3:=aM (Kd.bL (a6M C3.out C0.out) (Kd.cB ho0) hb);replace C7:=aM (Kd.bL (a6M C7.out C0.out) (Kd.cB ho0) hb);replace D3:=aM (Kd.bL (a6M D3.out C0.out) (Kd.cB ho0) hb);replace D0:=aM (Kd.bL (a6M D0.out C0.out) (Kd.cB ho0) hb);replace E0:=aM (Kd.bL (a6M E0.out C0.out) (Kd.cB ho0) hb);replace E7:=aM (Kd.bL (a6M E7.out C0.out) (Kd.cB ho0) hb);have F3:=aM (Kd.bl (Kd.aJ (Kd.aJ (Kd.aJ (Kd.aJ (Kd.aJ ho1 (Kd.bH (a8r C4.out C0.out C2.out))) (Kd.bH (a8r D4.out C0.out C2.out))) (Kd.bH (a8r D1.out C0.out C2.out))) (Kd.bH (a8r E1.out C0.out C2.out))) (Kd.bH (a8r E8.out C0.out C2.out))) (aI (z2_ HB.out)));replace C4:=aM (Kd.bL (a8r C4.out C0.out C2.out) (Kd.cB ho1) hb);replace D4:=aM (Kd.bL (a8r D4.out C0.out C2.out) (Kd.cB ho1) hb);replace D1:=aM (Kd.bL (a8r D1.out C0.out C2.out) (Kd.cB ho1) hb);replace E1:=aM (Kd.bL (a8r E1.out C0.out C2.out) (Kd.cB ho1) hb);replace E8:=aM (Kd.bL (a8r E8.out C0.out C2.out) (Kd.cB ho1) hb);replace B5:=kB_ B5 hb;replace B6:=kB_ B6 hb;replace B8:=kB_ B8 hb;replace B7:=kB_ B7 hb;replace C0:=aM (cw (g:=Ah3) (o:=.cells #[.slice j7 R2.length j8,.slice AK4 U2.length AK5] 26 (0,0)) (by (with_reducible repeat (first | refine aq ?_ _ | refine au ?_ | refine an ?_ _));refine bK ?_ Al6.out _;(with_reducible repeat (first | refine aq ?_ _ | refine au ?_ | refine an ?_ _));refine bK ?_ Al6.out _;(with_reducible repeat (first | refine aq ?_ _ | refine au ?_ | refine an ?_ _));apply a7M;(with_reducible repeat (first | refine aq ?_ _ | refine au ?_ | refine an ?_ _));exact C0.out) hb);replace C2:=aM (cw (g:=L7) (o:=.cells #[.int .i64 AW3,.int .i64 AW4] 30 (0,0)) (b5e Al7.out C2.out) hb);replace HB:=hB_ HB hb) | ((with_reducible refine gd_ 17 ?_);(try (refine bq (by rfl) ?_;dsimp only));refine be_ 17 #[.slice none 0 0,.slice none 0 0] 26 ?_;intro BT0 hg w79 ay hb;replace C3:=rB_ C3 hb;replace C4:=rB_ C4 hb;replace C7:=rB_ C7 hb;replace D3:=rB_ D3 hb;replace D4:=rB_ D4 hb;replace D0:=rB_ D0 hb;replace D1:=rB_ D1 hb;replace E0:=rB_ E0 hb;replace E1:=rB_ E1 hb;replace E7:=rB_ E7 hb;replace E8:=rB_ E8 hb;replace F2:=rB_ F2 hb;replace F3:=rB_ F3 hb;have C6:=aM (ay);have GW1155:=gE_ HB hg;have GE1155:=gE_ HB hg;replace HB:=hB_ HB hb;have AX3:=nL_ B5 hg;have Al8:=nG_ B5 hg;replace B5:=kB_ B5 hb;have AM4:=nL_ B6 hg;have AX4:=nG_ B6 hg;replace B6:=kB_ B6 hb;have BC5:=nL_ B8 hg;have B24:=nG_ B8 hg;replace B8:=kB_ B8 hb;have BC6:=nL_ B7 hg;have B25:=nG_ B7 hg;replace B7:=kB_ B7 hb;have BC7:=nL_ C0 hg;have B26:=nG_ C0 hg;replace C0:=kB_ C0 hb;have BC8:=nL_ C2 hg;have B27:=nG_ C2 hg;replace C2:=kB_ C2 hb;clear hb ay hg;obtain ⟨AJ4,AJ5,E38⟩:=Kd.aE F2.out;subst E38;have Bl3:=Al8.out;have Bl4:=AX3.out;have DY3:=AX4.out;have DY4:=AM4.out;have EE9:=B24.out;have EF0:=BC5.out;have EI6:=B25.out;have EI7:=BC6.out;have Ce1:=B26.out;have Ce2:=BC7.out;have Ce3:=B27.out;have Ce4:=BC8.out;have ⟨CE3,CE4,CE5,CE6⟩:=bu C6.out;obtain ⟨AP6,AP7,E39⟩:=Kd.aE F3.out;subst E39)));obtain ⟨w89,hq_⟩:∃ W_,W_=(w79.setCell ⟨BT0,0,none⟩ (.slice AJ4 U0.length AJ5)).setCell ⟨BT0,1,none⟩ (.slice AP6 V8.length AP7):=⟨_,rfl⟩;have n0_:af (Kd.R k30 30 w89 w.heap.size (fun k_=>some k_≠(.slice AM0 R0.length AG4:Value).ownBlock∧some k_≠(.slice AE3 P3.length AC7:Value).ownBlock∧some k_≠(.slice AG1 Q0.length AE4:Value).ownBlock∧some k_≠(.slice AF8 R5.length AF9:Value).ownBlock∧some k_≠(.slice j7 R2.length j8:Value).ownBlock∧some k_≠(.slice AJ4 U0.length AJ5:Value).ownBlock∧k_≠L7) (.slice AB2 O2.length l8) O2):=⟨by rw [hq_];exact by (with_reducible repeat (first | apply Kd.aQ | apply Kd.aN | apply Kd.aW));exact Kd.az (eN (Kd.bf C3.out C6.out (by decide)) (fun _ hk=>hk.2)) (fun _ hk=>⟨hk.1.1.1.1.1.1.1,⟨hk.1.1.1.1.1.1.2,⟨hk.1.1.1.1.1.2,⟨hk.1.1.1.1.2,⟨hk.1.1.1.2,⟨hk.1.2,hk.1.1.2⟩⟩⟩⟩⟩⟩)⟩;have n1_:af (Kd.R k48 48 w89 w.heap.size (fun k_=>some k_≠(.slice AC8 R1.length AC9:Value).ownBlock∧some k_≠(.slice AM3 R4.length AJ3:Value).ownBlock∧some k_≠(.slice AJ0 U5.length AJ1:Value).ownBlock∧some k_≠(.slice AK4 U2.length AK5:Value).ownBlock∧some k_≠(.slice AP6 V8.length AP7:Value).ownBlock) (.slice AJ2 J5.length AG0) J5):=⟨b1T C4.out C6.out⟩;have n2_:af (Kd.R k30 30 w89 w.heap.size (fun k_=>some k_≠(.slice AB2 O2.length l8:Value).ownBlock∧some k_≠(.slice AE3 P3.length AC7:Value).ownBlock∧some k_≠(.slice AG1 Q0.length AE4:Value).ownBlock∧some k_≠(.slice AF8 R5.length AF9:Value).ownBlock∧some k_≠(.slice j7 R2.length j8:Value).ownBlock∧some k_≠(.slice AJ4 U0.length AJ5:Value).ownBlock∧k_≠L7) (.slice AM0 R0.length AG4) R0):=⟨by rw [hq_];exact by (with_reducible repeat (first | apply Kd.aQ | apply Kd.aN | apply Kd.aW));exact Kd.az (eN (Kd.bf C7.out C6.out (by decide)) (fun _ hk=>hk.2)) (fun _ hk=>⟨hk.1.1.1.1.1.1.1,⟨hk.1.1.1.1.1.1.2,⟨hk.1.1.1.1.1.2,⟨hk.1.1.1.1.2,⟨hk.1.1.1.2,⟨hk.1.2,hk.1.1.2⟩⟩⟩⟩⟩⟩)⟩;have n3_:af (Kd.R k30 30 w89 w.heap.size (fun k_=>some k_≠(.slice AB2 O2.length l8:Value).ownBlock∧some k_≠(.slice AM0 R0.length AG4:Value).ownBlock∧some k_≠(.slice AG1 Q0.length AE4:Value).ownBlock∧some k_≠(.slice AF8 R5.length AF9:Value).ownBlock∧some k_≠(.slice j7 R2.length j8:Value).ownBlock∧some k_≠(.slice AJ4 U0.length AJ5:Value).ownBlock∧k_≠L7) (.slice AE3 P3.length AC7) P3):=⟨b3R D3.out C6.out⟩;have n4_:af (Kd.R k48 48 w89 w.heap.size (fun k_=>some k_≠(.slice AJ2 J5.length AG0:Value).ownBlock∧some k_≠(.slice AM3 R4.length AJ3:Value).ownBlock∧some k_≠(.slice AJ0 U5.length AJ1:Value).ownBlock∧some k_≠(.slice AK4 U2.length AK5:Value).ownBlock∧some k_≠(.slice AP6 V8.length AP7:Value).ownBlock) (.slice AC8 R1.length AC9) R1):=⟨b1T D4.out C6.out⟩;have n5_:af (Kd.R k30 30 w89 w.heap.size (fun k_=>some k_≠(.slice AB2 O2.length l8:Value).ownBlock∧some k_≠(.slice AM0 R0.length AG4:Value).ownBlock∧some k_≠(.slice AE3 P3.length AC7:Value).ownBlock∧some k_≠(.slice AF8 R5.length AF9:Value).ownBlock∧some k_≠(.slice j7 R2.length j8:Value).ownBlock∧some k_≠(.slice AJ4 U0.length AJ5:Value).ownBlock∧k_≠L7) (.slice AG1 Q0.length AE4) Q0):=⟨b3R D0.out C6.out⟩;have n6_:af (Kd.R k48 48 w89 w.heap.size (fun k_=>some k_≠(.slice AJ2 J5.length AG0:Value).ownBlock∧some k_≠(.slice AC8 R1.length AC9:Value).ownBlock∧some k_≠(.slice AJ0 U5.length AJ1:Value).ownBlock∧some k_≠(.slice AK4 U2.length AK5:Value).ownBlock∧some k_≠(.slice AP6 V8.length AP7:Value).ownBlock) (.slice AM3 R4.length AJ3) R4):=⟨b1T D1.out C6.out⟩;have n7_:af (Kd.R k30 30 w89 w.heap.size (fun k_=>some k_≠(.slice AB2 O2.length l8:Value).ownBlock∧some k_≠(.slice AM0 R0.length AG4:Value).ownBlock∧some k_≠(.slice AE3 P3.length AC7:Value).ownBlock∧some k_≠(.slice AG1 Q0.length AE4:Value).ownBlock∧some k_≠(.slice j7 R2.length j8:Value).ownBlock∧some k_≠(.slice AJ4 U0.length AJ5:Value).ownBlock∧k_≠L7) (.slice AF8 R5.length AF9) R5):=⟨b3R E0.out C6.out⟩;have n8_:af (Kd.R k48 48 w89 w.heap.size (fun k_=>some k_≠(.slice AJ2 J5.length AG0:Value).ownBlock∧some k_≠(.slice AC8 R1.length AC9:Value).ownBlock∧some k_≠(.slice AM3 R4.length AJ3:Value).ownBlock∧some k_≠(.slice AK4 U2.length AK5:Value).ownBlock∧some k_≠(.slice AP6 V8.length AP7:Value).ownBlock) (.slice AJ0 U5.length AJ1) U5):=⟨b1T E1.out C6.out⟩;have n9_:af (Kd.R k30 30 w89 w.heap.size (fun k_=>some k_≠(.slice AB2 O2.length l8:Value).ownBlock∧some k_≠(.slice AM0 R0.length AG4:Value).ownBlock∧some k_≠(.slice AE3 P3.length AC7:Value).ownBlock∧some k_≠(.slice AG1 Q0.length AE4:Value).ownBlock∧some k_≠(.slice AF8 R5.length AF9:Value).ownBlock∧some k_≠(.slice AJ4 U0.length AJ5:Value).ownBlock∧k_≠L7) (.slice j7 R2.length j8) R2):=⟨b3R E7.out C6.out⟩;have Ci1:af (Kd.R k48 48 w89 w.heap.size (fun k_=>some k_≠(.slice AJ2 J5.length AG0:Value).ownBlock∧some k_≠(.slice AC8 R1.length AC9:Value).ownBlock∧some k_≠(.slice AM3 R4.length AJ3:Value).ownBlock∧some k_≠(.slice AJ0 U5.length AJ1:Value).ownBlock∧some k_≠(.slice AP6 V8.length AP7:Value).ownBlock) (.slice AK4 U2.length AK5) U2):=⟨b1T E8.out C6.out⟩;have Ci2:af (Kd.R k30 30 w89 w.heap.size (fun k_=>some k_≠(.slice AB2 O2.length l8:Value).ownBlock∧some k_≠(.slice AM0 R0.length AG4:Value).ownBlock∧some k_≠(.slice AE3 P3.length AC7:Value).ownBlock∧some k_≠(.slice AG1 Q0.length AE4:Value).ownBlock∧some k_≠(.slice AF8 R5.length AF9:Value).ownBlock∧some k_≠(.slice j7 R2.length j8:Value).ownBlock∧k_≠L7) (.slice AJ4 U0.length AJ5) U0):=⟨by rw [hq_];exact by (with_reducible repeat (first | apply Kd.aQ | apply Kd.aN | apply Kd.aW));exact Kd.az (eN (Kd.bf F2.out C6.out (by decide)) (fun _ hk=>hk.2)) (fun _ hk=>⟨hk.1.1.1.1.1.1.1.2,⟨hk.1.1.1.1.1.1.2,⟨hk.1.1.1.1.1.2,⟨hk.1.1.1.1.2,⟨hk.1.1.1.2,⟨hk.1.1.2,hk.1.2⟩⟩⟩⟩⟩⟩)⟩;have Em2:af (Kd.R k48 48 w89 w.heap.size (fun k_=>some k_≠(.slice AJ2 J5.length AG0:Value).ownBlock∧some k_≠(.slice AC8 R1.length AC9:Value).ownBlock∧some k_≠(.slice AM3 R4.length AJ3:Value).ownBlock∧some k_≠(.slice AJ0 U5.length AJ1:Value).ownBlock∧some k_≠(.slice AK4 U2.length AK5:Value).ownBlock) (.slice AP6 V8.length AP7) V8):=⟨b1T F3.out C6.out⟩;have Em3:af (w89.heap[BA6]? = some (.cells #[.slice AB2 O2.length l8,.slice AJ2 J5.length AG0] 26 (0,0))):=⟨a9V AX3.out B5.out⟩;have Em4:af (w89.heap[Ag3]? = some (.cells #[.slice AE3 P3.length AC7,.slice AC8 R1.length AC9,.int .i64 AW1,.int .i64 AW2,.int .i64 AS9] 32 (0,0))):=⟨a9V AM4.out B6.out⟩;have Em5:af (w89.heap[Bl0]? = some (.cells #[.slice AG1 Q0.length AE4,.slice AM3 R4.length AJ3] 26 (0,0))):=⟨a9V BC5.out B8.out⟩;have Em6:af (w89.heap[Bl1]? = some (.cells #[.slice AF8 R5.length AF9,.slice AJ0 U5.length AJ1,.int .i64 BS8,.int .i64 BS9,.int .i64 AL9] 32 (0,0))):=⟨a9V BC6.out B7.out⟩;have Em7:af (w89.heap[Ah3]? = some (.cells #[.slice j7 R2.length j8,.slice AK4 U2.length AK5] 26 (0,0))):=⟨a9V BC7.out C0.out⟩;have Em8:af (w89.heap[L7]? = some (.cells #[.int .i64 AW3,.int .i64 AW4] 30 (0,0))):=⟨a9V BC8.out C2.out⟩;have Em9:af (w89.heap[BT0]? = some (.cells #[.slice AJ4 U0.length AJ5,.slice AP6 V8.length AP7] 26 (0,0))):=⟨b2n C6.out⟩;have Ci0:af (Below w.heap.size w w89):=⟨fE HB.out⟩;rw [← hq_];clear hq_;have C3:=n0_;have C4:=n1_;have C7:=n2_;have D3:=n3_;have D4:=n4_;have D0:=n5_;have D1:=n6_;have E0:=n7_;have E1:=n8_;have E7:=n9_;have E8:=Ci1;have F2:=Ci2;have F3:=Em2;have B5:=Em3;have B6:=Em4;have B8:=Em5;have B7:=Em6;have C0:=Em7;have C2:=Em8;have C6:=Em9;have HB:=Ci0;clear n0_ n1_ n2_ n3_ n4_ n5_ n6_ n7_ n8_ n9_ Ci1 Ci2 Em2 Em3 Em4 Em5 Em6 Em7 Em8 Em9 Ci0;replace C3:=rD_ C3;replace C4:=rD_ C4;replace C7:=rD_ C7;replace D3:=rD_ D3;replace D4:=rD_ D4;replace D0:=rD_ D0;replace D1:=rD_ D1;replace E0:=rD_ E0;replace E1:=rD_ E1;replace E7:=rD_ E7;replace E8:=rD_ E8;replace F2:=rD_ F2;replace F3:=rD_ F3;replace B5:=kD_ B5;replace B6:=kD_ B6;replace B8:=kD_ B8;replace B7:=kD_ B7;replace C0:=kD_ C0;replace C2:=kD_ C2;replace C6:=kD_ C6;replace HB:=hD_ HB;generalize hd_:w89.drew=w90 at C3 C4 C7 D3 D4 D0 D1 E0 E1 E7 E8 F2 F3 B5 B6 B8 B7 C0 C2 C6 HB;refine a5N 46 hd_ B6.out B5.out B8.out B7.out C0.out C2.out C6.out (fun ag=>?_);clear hd_;refine wT_ Y14.T11 (fun HT_ HW_=>?_);refine pu_ 2 58 #[O,O,I,O,O,O,O,O,O,O,O,O,O,O,O,O,O,O,O,O,O,O,O,O,O,O,O,O,O,O,O,O,O,O,O,O,O,O,O,O,O,O,O,O,O,O] HT_.out ?_;refine pu_ 3 59 #[O,O,I,I,O,O,O,O,O,O,O,O,O,O,O,O,O,O,O,O,O,O,O,O,O,O,O,O,O,O,O,O,O,O,O,O,O,O,O,O,O,O,O,O,O,O] HT_.out ?_;refine pu_ 4 60 #[O,O,I,I,I,O,O,O,O,O,O,O,O,O,O,O,O,O,O,O,O,O,O,O,O,O,O,O,O,O,O,O,O,O,O,O,O,O,O,O,O,O,O,O,O,O] HT_.out ?_;refine pu_ 5 61 #[O,O,I,I,I,I,O,O,O,O,O,O,O,O,O,O,O,O,O,O,O,O,O,O,O,O,O,O,O,O,O,O,O,O,O,O,O,O,O,O,O,O,O,O,O,O] HT_.out ?_;refine a1L (i:=0) (N:=some 56) (v:=?_) (a':=?_) #[I,O,I,I,I,I,O,O,O,O,O,O,O,O,O,O,O,O,O,O,O,O,O,O,O,O,O,O,O,O,O,O,O,O,O,O,O,O,O,O,O,O,O,O,O,O] rfl rfl (a0A HT_.out HW_.out (by kernel_rfl)) (fun _ _ _ h=>h) (Or.inl ⟨by rfl,?_⟩) ag ?_ ?_;rotate_left
          ·rintro w' ⟨s0,s1,s2,s3,s4,s5,s6,s7,s8,s9,s10,s11,s12,s13,s14,s15,s16,s17,s18,s19⟩;go_simp;with_reducible rfl
          rotate_left
          ·simp only [Act.put,sa_,s0_,ss_,aV,aZ];rfl
          refine a1L (i:=1) (N:=some 57) (v:=?_) (a':=?_) (nq 46 6) rfl rfl (a0A HT_.out HW_.out (by kernel_rfl)) (fun _ _ _ h=>h) (Or.inl ⟨by rfl,?_⟩) ag ?_ ?_;rotate_left
          ·rintro w' ⟨s0,s1,s2,s3,s4,s5,s6,s7,s8,s9,s10,s11,s12,s13,s14,s15,s16,s17,s18,s19⟩;go_simp;with_reducible rfl
          rotate_left
          ·simp only [Act.put,sa_,s0_,ss_,aV,aZ];rfl
          refine oa_ HT_.out (fun K hK=>?_);refine gs_ Tryz.func13 #[.agg #[.slice AB2 O2.length l8,.slice AJ2 J5.length AG0],.slice AM0 R0.length AG4,.int .i64 B11,.string B12,.bool B13] ?_;(with_reducible refine (Y18.calls kj2 _ _ O2 _ _ J5 _ _ R0 B11 B12 B13 Cz9 C00 C01 C02 C03 _ ?s1 ?s2 ?s3 ?s4 ?s5 ?s6 A14.out).mono ?_);(case s1=>exact de C3.out);(case s2=>exact (Kd.aA C3.out).2.1);(case s3=>exact de C4.out);(case s4=>exact (Kd.aA C4.out).2.1);(case s5=>exact de C7.out);(case s6=>exact (Kd.aA C7.out).2.1);rintro e w91 ⟨c2K,c2L,rfl,ho0,ho1,hb⟩;refine ⟨_,rfl,?_⟩;have H4:=aM (Kd.bl (Kd.a1p (Kd.aJ (Kd.aJ (Kd.aJ (Kd.aJ (Kd.aJ (Kd.aJ (Kd.aJ ho0 (Kd.bH (z1_ C3.out))) (Kd.bH (z1_ C7.out))) (Kd.bH (z1_ D3.out))) (Kd.bH (z1_ D0.out))) (Kd.bH (z1_ E0.out))) (Kd.bH (z1_ E7.out))) (Kd.bH (z1_ F2.out))) (g:=L7) (o:=.cells #[.int .i64 AW3,.int .i64 AW4] 30 (0,0)) (z0_ C2.out)) (aI (z2_ HB.out)));replace C3:=rE_ C3 ho0 hb;replace C7:=rE_ C7 ho0 hb;replace D3:=rE_ D3 ho0 hb;replace D0:=rE_ D0 ho0 hb;replace E0:=rE_ E0 ho0 hb;replace E7:=rE_ E7 ho0 hb;replace F2:=rE_ F2 ho0 hb;have H5:=aM (Kd.bl (Kd.aJ (Kd.aJ (Kd.aJ (Kd.aJ (Kd.aJ (Kd.aJ ho1 (Kd.bH (z1_ C4.out))) (Kd.bH (z1_ D4.out))) (Kd.bH (z1_ D1.out))) (Kd.bH (z1_ E1.out))) (Kd.bH (z1_ E8.out))) (Kd.bH (z1_ F3.out))) (aI (z2_ HB.out)));replace C4:=rE_ C4 ho1 hb;replace D4:=rE_ D4 ho1 hb;replace D1:=rE_ D1 ho1 hb;replace E1:=rE_ E1 ho1 hb;replace E8:=rE_ E8 ho1 hb;replace F3:=rE_ F3 ho1 hb;replace B5:=kB_ B5 hb;replace B6:=kB_ B6 hb;replace B8:=kB_ B8 hb;replace B7:=kB_ B7 hb;replace C0:=kB_ C0 hb;replace C2:=kB_ C2 hb;replace C6:=kB_ C6 hb;replace HB:=hB_ HB hb;obtain ⟨BT1,BT2,CV5⟩:=Kd.aE H4.out;(first | subst CV5 | (injection CV5 with f1_ f2_ f3_;have f4_:=f1_.symm;have f5_:=f3_.symm;clear f1_ f2_ f3_;subst f4_;subst f5_));obtain ⟨E40,E41,En0⟩:=Kd.aE H5.out;(first | subst En0 | (injection En0 with f1_ f2_ f3_;have f4_:=f1_.symm;have f5_:=f3_.symm;clear f1_ f2_ f3_;subst f4_;subst f5_));refine hK.out _ _ (fe B6.out (bR B5.out (bR B8.out (fe B7.out (bR C0.out (bR C2.out (dN C6.out))))))) (fun ag=>?_);clear hK K;refine nm_ 62 ?_;refine oa_ HT_.out (fun K hK=>?_);refine gs_ Tryz.func12 #[.agg #[.slice AE3 P3.length AC7,.slice AC8 R1.length AC9,.int .i64 AW1,.int .i64 AW2,.int .i64 AS9],.agg #[.slice BT1 Cz9.length BT2,.slice E40 C00.length E41,.int .i64 C01,.int .i64 C02,.int .i64 C03]] ?_;(with_reducible refine (Y86.calls kj2 _ _ P3 _ _ R1 AW1 AW2 AS9 _ _ Cz9 _ _ C00 C01 C02 C03 true _ ?s1 ?s2 ?s3 ?s4 ?s5 ?s6 ?s7 ?s8 A15.out).mono ?_);(case s1=>exact de D3.out);(case s2=>exact (Kd.aA D3.out).2.1);(case s3=>exact de D4.out);(case s4=>exact (Kd.aA D4.out).2.1);(case s5=>exact de H4.out);(case s6=>exact (Kd.aA H4.out).2.1);(case s7=>exact de H5.out);(case s8=>exact (Kd.aA H5.out).2.1);rintro e w94 ⟨rfl,hb⟩;refine ⟨_,rfl,?_⟩;replace C3:=rB_ C3 hb;replace C4:=rB_ C4 hb;replace C7:=rB_ C7 hb;replace D3:=rB_ D3 hb;replace D4:=rB_ D4 hb;replace D0:=rB_ D0 hb;replace D1:=rB_ D1 hb;replace E0:=rB_ E0 hb;replace E1:=rB_ E1 hb;replace E7:=rB_ E7 hb;replace E8:=rB_ E8 hb;replace F2:=rB_ F2 hb;replace F3:=rB_ F3 hb;replace H4:=rB_ H4 hb;replace H5:=rB_ H5 hb;replace B5:=kB_ B5 hb;replace B6:=kB_ B6 hb;replace B8:=kB_ B8 hb;replace B7:=kB_ B7 hb;replace C0:=kB_ C0 hb;replace C2:=kB_ C2 hb;replace C6:=kB_ C6 hb;replace HB:=hB_ HB hb;refine hK.out _ _ (fe B6.out (bR B5.out (bR B8.out (fe B7.out (bR C0.out (bR C2.out (dN C6.out))))))) (fun ag=>?_);clear hK K;refine nm_ 63 ?_;(iterate 3 refine pa_ HT_.out ?_);refine a1L (i:=11) (N:=some 67) (v:=?_) (a':=?_) (nq 46 12) rfl rfl (a0A HT_.out HW_.out (by kernel_rfl)) (fun _ _ _ h=>h) (Or.inl ⟨by rfl,?_⟩) ag ?_ ?_;rotate_left
          ·rintro w' ⟨s0,s1,s2,s3,s4,s5,s6,s7,s8,s9,s10,s11,s12,s13,s14,s15,s16,s17,s18,s19⟩;go_simp;with_reducible rfl
          rotate_left
          ·simp only [Act.put,sa_,s0_,ss_,aV,aZ];rfl
          refine oa_ HT_.out (fun K hK=>?_);refine gs_ Tryz.func14 #[.agg #[.slice AG1 Q0.length AE4,.slice AM3 R4.length AJ3]] ?_;(with_reducible refine (Y62.calls kj2 _ _ Q0 _ _ R4 Ba5 _ ?s1 ?s2 ?s3 ?s4 A17.out).mono ?_);(case s1=>exact de D0.out);(case s2=>exact (Kd.aA D0.out).2.1);(case s3=>exact de D1.out);(case s4=>exact (Kd.aA D1.out).2.1);rintro e w95 ⟨rfl,hb⟩;refine ⟨_,rfl,?_⟩;replace C3:=rB_ C3 hb;replace C4:=rB_ C4 hb;replace C7:=rB_ C7 hb;replace D3:=rB_ D3 hb;replace D4:=rB_ D4 hb;replace D0:=rB_ D0 hb;replace D1:=rB_ D1 hb;replace E0:=rB_ E0 hb;replace E1:=rB_ E1 hb;replace E7:=rB_ E7 hb;replace E8:=rB_ E8 hb;replace F2:=rB_ F2 hb;replace F3:=rB_ F3 hb;replace H4:=rB_ H4 hb;replace H5:=rB_ H5 hb;replace B5:=kB_ B5 hb;replace B6:=kB_ B6 hb;replace B8:=kB_ B8 hb;replace B7:=kB_ B7 hb;replace C0:=kB_ C0 hb;replace C2:=kB_ C2 hb;replace C6:=kB_ C6 hb;replace HB:=hB_ HB hb;refine hK.out _ _ (fe B6.out (bR B5.out (bR B8.out (fe B7.out (bR C0.out (bR C2.out (dN C6.out))))))) (fun ag=>?_);clear hK K;refine nm_ 68 ?_;(iterate 3 refine pa_ HT_.out ?_);refine pu_ 17 73 #[I,I,I,I,I,I,I,I,I,I,I,I,I,I,I,I,O,I,O,O,O,O,O,O,O,O,O,O,O,O,O,O,O,O,O,O,O,O,O,O,O,O,O,O,O,O] HT_.out ?_;refine a1L (i:=16) (N:=some 72) (v:=?_) (a':=?_) (nq 46 18) rfl rfl (a0A HT_.out HW_.out (by kernel_rfl)) (fun _ _ _ h=>h) (Or.inl ⟨by rfl,?_⟩) ag ?_ ?_;rotate_left
          ·rintro w' ⟨s0,s1,s2,s3,s4,s5,s6,s7,s8,s9,s10,s11,s12,s13,s14,s15,s16,s17,s18,s19⟩;go_simp;with_reducible rfl
          rotate_left
          ·simp only [Act.put,sa_,s0_,ss_,aV,aZ];rfl
          refine oa_ HT_.out (fun K hK=>?_);refine gs_ Tryz.func15 #[.string Ag9] ?_;(with_reducible refine (Y21.calls kj2 Ag9 C04 C05 C06 C07 C08 _ A19.out).mono ?_);rintro e w96 ⟨c2M,c2N,rfl,ho0,ho1,hb⟩;refine ⟨_,rfl,?_⟩;have J8:=aM (Kd.bl (Kd.a1p (Kd.aJ (Kd.aJ (Kd.aJ (Kd.aJ (Kd.aJ (Kd.aJ (Kd.aJ (Kd.aJ ho0 (Kd.bH (z1_ C3.out))) (Kd.bH (z1_ C7.out))) (Kd.bH (z1_ D3.out))) (Kd.bH (z1_ D0.out))) (Kd.bH (z1_ E0.out))) (Kd.bH (z1_ E7.out))) (Kd.bH (z1_ F2.out))) (Kd.bH (z1_ H4.out))) (g:=L7) (o:=.cells #[.int .i64 AW3,.int .i64 AW4] 30 (0,0)) (z0_ C2.out)) (aI (z2_ HB.out)));replace C3:=rE_ C3 ho0 hb;replace C7:=rE_ C7 ho0 hb;replace D3:=rE_ D3 ho0 hb;replace D0:=rE_ D0 ho0 hb;replace E0:=rE_ E0 ho0 hb;replace E7:=rE_ E7 ho0 hb;replace F2:=rE_ F2 ho0 hb;replace H4:=rE_ H4 ho0 hb;have J9:=aM (Kd.bl (Kd.aJ (Kd.aJ (Kd.aJ (Kd.aJ (Kd.aJ (Kd.aJ (Kd.aJ ho1 (Kd.bH (z1_ C4.out))) (Kd.bH (z1_ D4.out))) (Kd.bH (z1_ D1.out))) (Kd.bH (z1_ E1.out))) (Kd.bH (z1_ E8.out))) (Kd.bH (z1_ F3.out))) (Kd.bH (z1_ H5.out))) (aI (z2_ HB.out)));replace C4:=rE_ C4 ho1 hb;replace D4:=rE_ D4 ho1 hb;replace D1:=rE_ D1 ho1 hb;replace E1:=rE_ E1 ho1 hb;replace E8:=rE_ E8 ho1 hb;replace F3:=rE_ F3 ho1 hb;replace H5:=rE_ H5 ho1 hb;replace B5:=kB_ B5 hb;replace B6:=kB_ B6 hb;replace B8:=kB_ B8 hb;replace B7:=kB_ B7 hb;replace C0:=kB_ C0 hb;replace C2:=kB_ C2 hb;replace C6:=kB_ C6 hb;replace HB:=hB_ HB hb;obtain ⟨Bb2,Bb3,CV6⟩:=Kd.aE J8.out;(first | subst CV6 | (injection CV6 with f1_ f2_ f3_;have f4_:=f1_.symm;have f5_:=f3_.symm;clear f1_ f2_ f3_;subst f4_;subst f5_));obtain ⟨Cq2,Cq3,Cq4⟩:=Kd.aE J9.out;(first | subst Cq4 | (injection Cq4 with f1_ f2_ f3_;have f4_:=f1_.symm;have f5_:=f3_.symm;clear f1_ f2_ f3_;subst f4_;subst f5_));refine hK.out _ _ (fe B6.out (bR B5.out (bR B8.out (fe B7.out (bR C0.out (bR C2.out (dN C6.out))))))) (fun ag=>?_);clear hK K;refine nm_ 74 ?_;refine oa_ HT_.out (fun K hK=>?_);refine gs_ Tryz.func12 #[.agg #[.slice AF8 R5.length AF9,.slice AJ0 U5.length AJ1,.int .i64 BS8,.int .i64 BS9,.int .i64 AL9],.agg #[.slice Bb2 C04.length Bb3,.slice Cq2 C05.length Cq3,.int .i64 C06,.int .i64 C07,.int .i64 C08]] ?_;(with_reducible refine (Y86.calls kj2 _ _ R5 _ _ U5 BS8 BS9 AL9 _ _ C04 _ _ C05 C06 C07 C08 true _ ?s1 ?s2 ?s3 ?s4 ?s5 ?s6 ?s7 ?s8 A20.out).mono ?_);(case s1=>exact de E0.out);(case s2=>exact (Kd.aA E0.out).2.1);(case s3=>exact de E1.out);(case s4=>exact (Kd.aA E1.out).2.1);(case s5=>exact de J8.out);(case s6=>exact (Kd.aA J8.out).2.1);(case s7=>exact de J9.out);(case s8=>exact (Kd.aA J9.out).2.1);rintro e w99 ⟨rfl,hb⟩;refine ⟨_,rfl,?_⟩;replace C3:=rB_ C3 hb;replace C4:=rB_ C4 hb;replace C7:=rB_ C7 hb;replace D3:=rB_ D3 hb;replace D4:=rB_ D4 hb;replace D0:=rB_ D0 hb;replace D1:=rB_ D1 hb;replace E0:=rB_ E0 hb;replace E1:=rB_ E1 hb;replace E7:=rB_ E7 hb;replace E8:=rB_ E8 hb;replace F2:=rB_ F2 hb;replace F3:=rB_ F3 hb;replace H4:=rB_ H4 hb;replace H5:=rB_ H5 hb;replace J8:=rB_ J8 hb;replace J9:=rB_ J9 hb;replace B5:=kB_ B5 hb;replace B6:=kB_ B6 hb;replace B8:=kB_ B8 hb;replace B7:=kB_ B7 hb;replace C0:=kB_ C0 hb;replace C2:=kB_ C2 hb;replace C6:=kB_ C6 hb;replace HB:=hB_ HB hb;refine hK.out _ _ (fe B6.out (bR B5.out (bR B8.out (fe B7.out (bR C0.out (bR C2.out (dN C6.out))))))) (fun ag=>?_);clear hK K;refine nm_ 75 ?_;(iterate 3 refine pa_ HT_.out ?_);refine a1L (i:=23) (N:=some 79) (v:=?_) (a':=?_) (nq 46 24) rfl rfl (a0A HT_.out HW_.out (by kernel_rfl)) (fun _ _ _ h=>h) (Or.inl ⟨by rfl,?_⟩) ag ?_ ?_;rotate_left
          ·rintro w' ⟨s0,s1,s2,s3,s4,s5,s6,s7,s8,s9,s10,s11,s12,s13,s14,s15,s16,s17,s18,s19⟩;go_simp;with_reducible rfl
          rotate_left
          ·simp only [Act.put,sa_,s0_,ss_,aV,aZ];rfl
          refine a1L (i:=24) (N:=some 80) (v:=?_) (a':=?_) (nq 46 25) rfl rfl (a0A HT_.out HW_.out (by kernel_rfl)) (fun _ _ _ h=>h) (Or.inl ⟨by rfl,?_⟩) ag ?_ ?_;rotate_left
          ·rintro w' ⟨s0,s1,s2,s3,s4,s5,s6,s7,s8,s9,s10,s11,s12,s13,s14,s15,s16,s17,s18,s19⟩;go_simp;with_reducible rfl
          rotate_left
          ·simp only [Act.put,sa_,s0_,ss_,aV,aZ];rfl
          refine a1L (i:=26) (N:=some 82) (v:=?_) (a':=?_) #[I,I,I,I,I,I,I,I,I,I,I,I,I,I,I,I,I,I,I,I,I,I,I,I,I,O,I,O,O,O,O,O,O,O,O,O,O,O,O,O,O,O,O,O,O,O] rfl rfl (a0A HT_.out HW_.out (by kernel_rfl)) (fun _ _ _ h=>h) (Or.inl ⟨by rfl,?_⟩) ag ?_ ?_;rotate_left
          ·rintro w' ⟨s0,s1,s2,s3,s4,s5,s6,s7,s8,s9,s10,s11,s12,s13,s14,s15,s16,s17,s18,s19⟩;go_simp;with_reducible rfl
          rotate_left
          ·simp only [Act.put,sa_,s0_,ss_,aV,aZ];rfl
          refine a1L (i:=27) (N:=some 83) (v:=?_) (a':=?_) #[I,I,I,I,I,I,I,I,I,I,I,I,I,I,I,I,I,I,I,I,I,I,I,I,I,O,I,I,O,O,O,O,O,O,O,O,O,O,O,O,O,O,O,O,O,O] rfl rfl (a0A HT_.out HW_.out (by kernel_rfl)) (fun _ _ _ h=>h) (Or.inl ⟨by rfl,?_⟩) ag ?_ ?_;rotate_left
          ·rintro w' ⟨s0,s1,s2,s3,s4,s5,s6,s7,s8,s9,s10,s11,s12,s13,s14,s15,s16,s17,s18,s19⟩;go_simp;with_reducible rfl
          rotate_left
          ·simp only [Act.put,sa_,s0_,ss_,aV,aZ];rfl
          refine o1_ 25 81 (nq 46 28) HT_.out (fun K hK=>?_);refine gs_ Tryz.func16 #[.agg #[.slice j7 R2.length j8,.slice AK4 U2.length AK5],.agg #[.int .i64 AW3,.int .i64 AW4]] ?_;(with_reducible refine (Y77.calls kj2 _ _ R2 _ _ U2 AW3 AW4 BS4 _ ?s1 ?s2 ?s3 ?s4 A22.out).mono ?_);(case s1=>exact de E7.out);(case s2=>exact (Kd.aA E7.out).2.1);(case s3=>exact de E8.out);(case s4=>exact (Kd.aA E8.out).2.1);rintro e c4u ⟨rfl,hb⟩;refine ⟨_,rfl,?_⟩;replace C3:=rB_ C3 hb;replace C4:=rB_ C4 hb;replace C7:=rB_ C7 hb;replace D3:=rB_ D3 hb;replace D4:=rB_ D4 hb;replace D0:=rB_ D0 hb;replace D1:=rB_ D1 hb;replace E0:=rB_ E0 hb;replace E1:=rB_ E1 hb;replace E7:=rB_ E7 hb;replace E8:=rB_ E8 hb;replace F2:=rB_ F2 hb;replace F3:=rB_ F3 hb;replace H4:=rB_ H4 hb;replace H5:=rB_ H5 hb;replace J8:=rB_ J8 hb;replace J9:=rB_ J9 hb;replace B5:=kB_ B5 hb;replace B6:=kB_ B6 hb;replace B8:=kB_ B8 hb;replace B7:=kB_ B7 hb;replace C0:=kB_ C0 hb;replace C2:=kB_ C2 hb;replace C6:=kB_ C6 hb;replace HB:=hB_ HB hb;refine hK.out _ _ (fe B6.out (bR B5.out (bR B8.out (fe B7.out (bR C0.out (bR C2.out (dN C6.out))))))) (fun ag=>?_);clear hK K;refine nm_ 81 ?_;refine oa_ HT_.out (fun K hK=>?_);refine gs_ Tryz.func17 #[.agg #[.slice j7 R2.length j8,.slice AK4 U2.length AK5],.agg #[.int .i64 AW3,.int .i64 AW4]] ?_;(with_reducible refine (Y90.calls kj2 _ _ R2 _ _ U2 AW3 AW4 BS5 _ ?s1 ?s2 ?s3 ?s4 A23.out).mono ?_);(case s1=>exact de E7.out);(case s2=>exact (Kd.aA E7.out).2.1);(case s3=>exact de E8.out);(case s4=>exact (Kd.aA E8.out).2.1);rintro e Er0 ⟨rfl,hb⟩;refine ⟨_,rfl,?_⟩;replace C3:=rB_ C3 hb;replace C4:=rB_ C4 hb;replace C7:=rB_ C7 hb;replace D3:=rB_ D3 hb;replace D4:=rB_ D4 hb;replace D0:=rB_ D0 hb;replace D1:=rB_ D1 hb;replace E0:=rB_ E0 hb;replace E1:=rB_ E1 hb;replace E7:=rB_ E7 hb;replace E8:=rB_ E8 hb;replace F2:=rB_ F2 hb;replace F3:=rB_ F3 hb;replace H4:=rB_ H4 hb;replace H5:=rB_ H5 hb;replace J8:=rB_ J8 hb;replace J9:=rB_ J9 hb;replace B5:=kB_ B5 hb;replace B6:=kB_ B6 hb;replace B8:=kB_ B8 hb;replace B7:=kB_ B7 hb;replace C0:=kB_ C0 hb;replace C2:=kB_ C2 hb;replace C6:=kB_ C6 hb;replace HB:=hB_ HB hb;refine hK.out _ _ (fe B6.out (bR B5.out (bR B8.out (fe B7.out (bR C0.out (bR C2.out (dN C6.out))))))) (fun ag=>?_);clear hK K;refine nm_ 84 ?_;(iterate 3 refine pa_ HT_.out ?_);refine a1L (i:=32) (N:=some 88) (v:=?_) (a':=?_) (nq 46 33) rfl rfl (a0A HT_.out HW_.out (by kernel_rfl)) (fun _ _ _ h=>h) (Or.inl ⟨by rfl,?_⟩) ag ?_ ?_;rotate_left
          ·rintro w' ⟨s0,s1,s2,s3,s4,s5,s6,s7,s8,s9,s10,s11,s12,s13,s14,s15,s16,s17,s18,s19⟩;go_simp;with_reducible rfl
          rotate_left
          ·simp only [Act.put,sa_,s0_,ss_,aV,aZ];rfl
          refine a1L (i:=34) (N:=some 90) (v:=?_) (a':=?_) #[I,I,I,I,I,I,I,I,I,I,I,I,I,I,I,I,I,I,I,I,I,I,I,I,I,I,I,I,I,I,I,I,I,O,I,O,O,O,O,O,O,O,O,O,O,O] rfl rfl (a0A HT_.out HW_.out (by kernel_rfl)) (fun _ _ _ h=>h) (Or.inl ⟨by rfl,?_⟩) ag ?_ ?_;rotate_left
          ·rintro w' ⟨s0,s1,s2,s3,s4,s5,s6,s7,s8,s9,s10,s11,s12,s13,s14,s15,s16,s17,s18,s19⟩;go_simp;with_reducible rfl
          rotate_left
          ·simp only [Act.put,sa_,s0_,ss_,aV,aZ];rfl
          refine o1_ 33 89 (nq 46 35) HT_.out (fun K hK=>?_);refine gs_ Tryz.func19 #[.agg #[.slice AJ4 U0.length AJ5,.slice AP6 V8.length AP7]] ?_;(with_reducible refine (Y47.calls kj2 _ _ U0 _ _ V8 B09 _ ?s1 ?s2 ?s3 ?s4 A25.out).mono ?_);(case s1=>exact de F2.out);(case s2=>exact (Kd.aA F2.out).2.1);(case s3=>exact de F3.out);(case s4=>exact (Kd.aA F3.out).2.1);rintro e c4v ⟨c2O,rfl,ho0,hb⟩;refine ⟨_,rfl,?_⟩;replace C3:=rB_ C3 hb;replace C4:=rB_ C4 hb;replace C7:=rB_ C7 hb;replace D3:=rB_ D3 hb;replace D4:=rB_ D4 hb;replace D0:=rB_ D0 hb;replace D1:=rB_ D1 hb;replace E0:=rB_ E0 hb;replace E1:=rB_ E1 hb;replace E7:=rB_ E7 hb;replace E8:=rB_ E8 hb;replace F2:=rB_ F2 hb;replace F3:=rB_ F3 hb;replace H4:=rB_ H4 hb;replace H5:=rB_ H5 hb;replace J8:=rB_ J8 hb;replace J9:=rB_ J9 hb;have N0:=rL_ ho0 HB;replace B5:=kB_ B5 hb;replace B6:=kB_ B6 hb;replace B8:=kB_ B8 hb;replace B7:=kB_ B7 hb;replace C0:=kB_ C0 hb;replace C2:=kB_ C2 hb;replace C6:=kB_ C6 hb;replace HB:=hB_ HB hb;refine hK.out _ _ (fe B6.out (bR B5.out (bR B8.out (fe B7.out (bR C0.out (bR C2.out (dN C6.out))))))) (fun ag=>?_);clear hK K;refine nm_ 89 ?_;refine oa_ HT_.out (fun K hK=>?_);refine gs_ Tryz.func20 #[.agg #[.slice AJ4 U0.length AJ5,.slice AP6 V8.length AP7]] ?_;(with_reducible refine (Y44.calls kj2 _ _ U0 _ _ V8 B10 _ ?s1 ?s2 ?s3 ?s4 A26.out).mono ?_);(case s1=>exact de F2.out);(case s2=>exact (Kd.aA F2.out).2.1);(case s3=>exact de F3.out);(case s4=>exact (Kd.aA F3.out).2.1);rintro e c4w ⟨c2P,rfl,ho0,hb⟩;refine ⟨_,rfl,?_⟩;replace C3:=rB_ C3 hb;replace C4:=rB_ C4 hb;replace C7:=rB_ C7 hb;replace D3:=rB_ D3 hb;replace D4:=rB_ D4 hb;replace D0:=rB_ D0 hb;replace D1:=rB_ D1 hb;replace E0:=rB_ E0 hb;replace E1:=rB_ E1 hb;replace E7:=rB_ E7 hb;replace E8:=rB_ E8 hb;replace F2:=rB_ F2 hb;replace F3:=rB_ F3 hb;replace H4:=rB_ H4 hb;replace H5:=rB_ H5 hb;replace J8:=rB_ J8 hb;replace J9:=rB_ J9 hb;have P0:=aM (Kd.bl (Kd.aJ ho0 (Kd.bH (z1_ N0.out))) (aI (z2_ HB.out)));replace N0:=rE_ N0 ho0 hb;replace B5:=kB_ B5 hb;replace B6:=kB_ B6 hb;replace B8:=kB_ B8 hb;replace B7:=kB_ B7 hb;replace C0:=kB_ C0 hb;replace C2:=kB_ C2 hb;replace C6:=kB_ C6 hb;replace HB:=hB_ HB hb;obtain ⟨En1,En2,Dk9⟩:=Kd.aE N0.out;(first | subst Dk9 | (injection Dk9 with f1_ f2_ f3_;have f4_:=f1_.symm;have f5_:=f3_.symm;clear f1_ f2_ f3_;subst f4_;subst f5_));obtain ⟨En3,En4,Dl0⟩:=Kd.aE P0.out;(first | subst Dl0 | (injection Dl0 with f1_ f2_ f3_;have f4_:=f1_.symm;have f5_:=f3_.symm;clear f1_ f2_ f3_;subst f4_;subst f5_));refine hK.out _ _ (fe B6.out (bR B5.out (bR B8.out (fe B7.out (bR C0.out (bR C2.out (dN C6.out))))))) (fun ag=>?_);clear hK K;refine nm_ 91 ?_;refine oa_ HT_.out (fun K hK=>?_);refine gs_ Tryz.func18 #[.slice En1 B09.length En2,.slice En3 B10.length En4] ?_;(with_reducible refine (Y56.calls kj2 _ _ B09 _ _ B10 true _ ?s1 ?s2 ?s3 ?s4 A27.out).mono ?_);(case s1=>exact de N0.out);(case s2=>exact (Kd.aA N0.out).2.1);(case s3=>exact de P0.out);(case s4=>exact (Kd.aA P0.out).2.1);rintro e w' ⟨rfl,⟨nd,rfl⟩⟩;refine ⟨_,rfl,?_⟩;refine hK.out _ _ (fe B6.out (bR B5.out (bR B8.out (fe B7.out (bR C0.out (bR C2.out (dN C6.out))))))) (fun ag=>?_);clear hK K;refine nm_ 92 ?_;(iterate 3 refine pa_ HT_.out ?_);refine a1L (i:=40) (N:=some 96) (v:=?_) (a':=?_) (nq 46 41) rfl rfl (a0A HT_.out HW_.out (by kernel_rfl)) (fun _ _ _ h=>h) (Or.inl ⟨by rfl,?_⟩) ag ?_ ?_;rotate_left
          ·rintro w' ⟨s0,s1,s2,s3,s4,s5,s6,s7,s8,s9,s10,s11,s12,s13,s14,s15,s16,s17,s18,s19⟩;go_simp;with_reducible rfl
          rotate_left
          ·simp only [Act.put,sa_,s0_,ss_,aV,aZ];rfl
          refine a1L (i:=42) (N:=some 98) (v:=?_) (a':=?_) #[I,I,I,I,I,I,I,I,I,I,I,I,I,I,I,I,I,I,I,I,I,I,I,I,I,I,I,I,I,I,I,I,I,I,I,I,I,I,I,I,I,O,I,O,O,O] rfl rfl (a0A HT_.out HW_.out (by kernel_rfl)) (fun _ _ _ h=>h) (Or.inl ⟨by rfl,?_⟩) ag ?_ ?_;rotate_left
          ·rintro w' ⟨s0,s1,s2,s3,s4,s5,s6,s7,s8,s9,s10,s11,s12,s13,s14,s15,s16,s17,s18,s19⟩;go_simp;with_reducible rfl
          rotate_left
          ·simp only [Act.put,sa_,s0_,ss_,aV,aZ];rfl
          refine o1_ 41 97 (nq 46 43) HT_.out (fun K hK=>?_);refine gs_ Tryz.func21 #[.agg #[.slice AB2 O2.length l8,.slice AJ2 J5.length AG0]] ?_;(with_reducible refine (Y8.calls kj2 _ _ O2 _ _ J5 BS6 _ ?s1 ?s2 ?s3 ?s4 A29.out).mono ?_);(case s1=>exact de C3.out);(case s2=>exact (Kd.aA C3.out).2.1);(case s3=>exact de C4.out);(case s4=>exact (Kd.aA C4.out).2.1);rintro e c4x ⟨rfl,hb⟩;refine ⟨_,rfl,?_⟩;replace C3:=rB_ C3 hb;replace C4:=rB_ C4 hb;replace C7:=rB_ C7 hb;replace D3:=rB_ D3 hb;replace D4:=rB_ D4 hb;replace D0:=rB_ D0 hb;replace D1:=rB_ D1 hb;replace E0:=rB_ E0 hb;replace E1:=rB_ E1 hb;replace E7:=rB_ E7 hb;replace E8:=rB_ E8 hb;replace F2:=rB_ F2 hb;replace F3:=rB_ F3 hb;replace H4:=rB_ H4 hb;replace H5:=rB_ H5 hb;replace J8:=rB_ J8 hb;replace J9:=rB_ J9 hb;replace N0:=rB_ N0 hb;replace P0:=rB_ P0 hb;replace B5:=kB_ B5 hb;replace B6:=kB_ B6 hb;replace B8:=kB_ B8 hb;replace B7:=kB_ B7 hb;replace C0:=kB_ C0 hb;replace C2:=kB_ C2 hb;replace C6:=kB_ C6 hb;replace HB:=hB_ HB hb;refine hK.out _ _ (fe B6.out (bR B5.out (bR B8.out (fe B7.out (bR C0.out (bR C2.out (dN C6.out))))))) (fun ag=>?_);clear hK K;refine nm_ 97 ?_;refine oa_ HT_.out (fun K hK=>?_);refine gs_ Tryz.func22 #[.agg #[.slice AB2 O2.length l8,.slice AJ2 J5.length AG0]] ?_;(with_reducible refine (Y3.calls kj2 _ _ O2 _ _ J5 BS7 _ ?s1 ?s2 ?s3 ?s4 A30.out).mono ?_);(case s1=>exact de C3.out);(case s2=>exact (Kd.aA C3.out).2.1);(case s3=>exact de C4.out);(case s4=>exact (Kd.aA C4.out).2.1);rintro e DU8 ⟨rfl,hb⟩;refine ⟨_,rfl,?_⟩;replace C3:=rB_ C3 hb;replace C4:=rB_ C4 hb;replace C7:=rB_ C7 hb;replace D3:=rB_ D3 hb;replace D4:=rB_ D4 hb;replace D0:=rB_ D0 hb;replace D1:=rB_ D1 hb;replace E0:=rB_ E0 hb;replace E1:=rB_ E1 hb;replace E7:=rB_ E7 hb;replace E8:=rB_ E8 hb;replace F2:=rB_ F2 hb;replace F3:=rB_ F3 hb;replace H4:=rB_ H4 hb;replace H5:=rB_ H5 hb;replace J8:=rB_ J8 hb;replace J9:=rB_ J9 hb;replace N0:=rB_ N0 hb;replace P0:=rB_ P0 hb;replace B5:=kB_ B5 hb;replace B6:=kB_ B6 hb;replace B8:=kB_ B8 hb;replace B7:=kB_ B7 hb;replace C0:=kB_ C0 hb;replace C2:=kB_ C2 hb;replace C6:=kB_ C6 hb;replace HB:=hB_ HB hb;refine hK.out _ _ (fe B6.out (bR B5.out (bR B8.out (fe B7.out (bR C0.out (bR C2.out (dN C6.out))))))) (fun ag=>?_);clear hK K;refine nm_ 99 ?_;(iterate 2 refine pa_ HT_.out ?_);refine bZ (bk HT_.out (by kernel_rfl)) ?_;go_upto_region 13 with (fail);go_cut [123] (fun E42 wc=>∃ (kq:Nat) (BL9:Bool),E42 = .bool BL9∧af (Y14.j1 kq R0 BL9 O2 J5 P3 R1 AW1 AW2 AS9=some r)∧af (kq≤kj2)∧af (Kd.R k30 30 wc w.heap.size (fun k_=>some k_≠((.slice AB2 O2.length l8):Value).ownBlock∧some k_≠((.slice AE3 P3.length AC7):Value).ownBlock∧some k_≠((.slice AG1 Q0.length AE4):Value).ownBlock∧some k_≠((.slice AF8 R5.length AF9):Value).ownBlock∧some k_≠((.slice j7 R2.length j8):Value).ownBlock∧some k_≠((.slice AJ4 U0.length AJ5):Value).ownBlock∧k_≠L7) (.slice AM0 R0.length AG4) R0)∧af (Kd.R k30 30 wc w.heap.size (fun k_=>some k_≠((.slice AM0 R0.length AG4):Value).ownBlock∧some k_≠((.slice AE3 P3.length AC7):Value).ownBlock∧some k_≠((.slice AG1 Q0.length AE4):Value).ownBlock∧some k_≠((.slice AF8 R5.length AF9):Value).ownBlock∧some k_≠((.slice j7 R2.length j8):Value).ownBlock∧some k_≠((.slice AJ4 U0.length AJ5):Value).ownBlock∧k_≠L7) (.slice AB2 O2.length l8) O2)∧af (Kd.R k48 48 wc w.heap.size (fun k_=>some k_≠((.slice AC8 R1.length AC9):Value).ownBlock∧some k_≠((.slice AM3 R4.length AJ3):Value).ownBlock∧some k_≠((.slice AJ0 U5.length AJ1):Value).ownBlock∧some k_≠((.slice AK4 U2.length AK5):Value).ownBlock∧some k_≠((.slice AP6 V8.length AP7):Value).ownBlock) (.slice AJ2 J5.length AG0) J5)∧af (Kd.R k30 30 wc w.heap.size (fun k_=>some k_≠((.slice AM0 R0.length AG4):Value).ownBlock∧some k_≠((.slice AB2 O2.length l8):Value).ownBlock∧some k_≠((.slice AG1 Q0.length AE4):Value).ownBlock∧some k_≠((.slice AF8 R5.length AF9):Value).ownBlock∧some k_≠((.slice j7 R2.length j8):Value).ownBlock∧some k_≠((.slice AJ4 U0.length AJ5):Value).ownBlock∧k_≠L7) (.slice AE3 P3.length AC7) P3)∧af (Kd.R k48 48 wc w.heap.size (fun k_=>some k_≠((.slice AJ2 J5.length AG0):Value).ownBlock∧some k_≠((.slice AM3 R4.length AJ3):Value).ownBlock∧some k_≠((.slice AJ0 U5.length AJ1):Value).ownBlock∧some k_≠((.slice AK4 U2.length AK5):Value).ownBlock∧some k_≠((.slice AP6 V8.length AP7):Value).ownBlock) (.slice AC8 R1.length AC9) R1)∧af (Kd.R k30 30 wc w.heap.size (fun k_=>some k_≠((.slice AM0 R0.length AG4):Value).ownBlock∧some k_≠((.slice AB2 O2.length l8):Value).ownBlock∧some k_≠((.slice AE3 P3.length AC7):Value).ownBlock∧some k_≠((.slice AF8 R5.length AF9):Value).ownBlock∧some k_≠((.slice j7 R2.length j8):Value).ownBlock∧some k_≠((.slice AJ4 U0.length AJ5):Value).ownBlock∧k_≠L7) (.slice AG1 Q0.length AE4) Q0)∧af (Kd.R k48 48 wc w.heap.size (fun k_=>some k_≠((.slice AJ2 J5.length AG0):Value).ownBlock∧some k_≠((.slice AC8 R1.length AC9):Value).ownBlock∧some k_≠((.slice AJ0 U5.length AJ1):Value).ownBlock∧some k_≠((.slice AK4 U2.length AK5):Value).ownBlock∧some k_≠((.slice AP6 V8.length AP7):Value).ownBlock) (.slice AM3 R4.length AJ3) R4)∧af (Kd.R k30 30 wc w.heap.size (fun k_=>some k_≠((.slice AM0 R0.length AG4):Value).ownBlock∧some k_≠((.slice AB2 O2.length l8):Value).ownBlock∧some k_≠((.slice AE3 P3.length AC7):Value).ownBlock∧some k_≠((.slice AG1 Q0.length AE4):Value).ownBlock∧some k_≠((.slice j7 R2.length j8):Value).ownBlock∧some k_≠((.slice AJ4 U0.length AJ5):Value).ownBlock∧k_≠L7) (.slice AF8 R5.length AF9) R5)∧af (Kd.R k48 48 wc w.heap.size (fun k_=>some k_≠((.slice AJ2 J5.length AG0):Value).ownBlock∧some k_≠((.slice AC8 R1.length AC9):Value).ownBlock∧some k_≠((.slice AM3 R4.length AJ3):Value).ownBlock∧some k_≠((.slice AK4 U2.length AK5):Value).ownBlock∧some k_≠((.slice AP6 V8.length AP7):Value).ownBlock) (.slice AJ0 U5.length AJ1) U5)∧af (Kd.R k30 30 wc w.heap.size (fun k_=>some k_≠((.slice AM0 R0.length AG4):Value).ownBlock∧some k_≠((.slice AB2 O2.length l8):Value).ownBlock∧some k_≠((.slice AE3 P3.length AC7):Value).ownBlock∧some k_≠((.slice AG1 Q0.length AE4):Value).ownBlock∧some k_≠((.slice AF8 R5.length AF9):Value).ownBlock∧some k_≠((.slice AJ4 U0.length AJ5):Value).ownBlock∧k_≠L7) (.slice j7 R2.length j8) R2)∧af (Kd.R k48 48 wc w.heap.size (fun k_=>some k_≠((.slice AJ2 J5.length AG0):Value).ownBlock∧some k_≠((.slice AC8 R1.length AC9):Value).ownBlock∧some k_≠((.slice AM3 R4.length AJ3):Value).ownBlock∧some k_≠((.slice AJ0 U5.length AJ1):Value).ownBlock∧some k_≠((.slice AP6 V8.length AP7):Value).ownBlock) (.slice AK4 U2.length AK5) U2)∧af (Kd.R k30 30 wc w.heap.size (fun k_=>some k_≠((.slice AM0 R0.length AG4):Value).ownBlock∧some k_≠((.slice AB2 O2.length l8):Value).ownBlock∧some k_≠((.slice AE3 P3.length AC7):Value).ownBlock∧some k_≠((.slice AG1 Q0.length AE4):Value).ownBlock∧some k_≠((.slice AF8 R5.length AF9):Value).ownBlock∧some k_≠((.slice j7 R2.length j8):Value).ownBlock∧k_≠L7) (.slice AJ4 U0.length AJ5) U0)∧af (Kd.R k48 48 wc w.heap.size (fun k_=>some k_≠((.slice AJ2 J5.length AG0):Value).ownBlock∧some k_≠((.slice AC8 R1.length AC9):Value).ownBlock∧some k_≠((.slice AM3 R4.length AJ3):Value).ownBlock∧some k_≠((.slice AJ0 U5.length AJ1):Value).ownBlock∧some k_≠((.slice AK4 U2.length AK5):Value).ownBlock) (.slice AP6 V8.length AP7) V8)∧af (wc.heap[BA6]? = some (.cells #[(.slice AB2 O2.length l8),(.slice AJ2 J5.length AG0)] 26 (0,0)))∧af (wc.heap[Ag3]? = some (.cells #[(.slice AE3 P3.length AC7),(.slice AC8 R1.length AC9),.int .i64 AW1,.int .i64 AW2,.int .i64 AS9] 32 (0,0)))∧af (wc.heap[Bl0]? = some (.cells #[(.slice AG1 Q0.length AE4),(.slice AM3 R4.length AJ3)] 26 (0,0)))∧af (wc.heap[Bl1]? = some (.cells #[(.slice AF8 R5.length AF9),(.slice AJ0 U5.length AJ1),.int .i64 BS8,.int .i64 BS9,.int .i64 AL9] 32 (0,0)))∧af (wc.heap[Ah3]? = some (.cells #[(.slice j7 R2.length j8),(.slice AK4 U2.length AK5)] 26 (0,0)))∧af (wc.heap[L7]? = some (.cells #[.int .i64 AW3,.int .i64 AW4] 30 (0,0)))∧af (wc.heap[BT0]? = some (.cells #[(.slice AJ4 U0.length AJ5),(.slice AP6 V8.length AP7)] 26 (0,0)))∧af (Below w.heap.size w wc))
          case first=>as_aux_lemma =>
           have H:=D85.out;clear D85;by_cases CA1:AL7.toList=([]:List UInt8)
           ·rw [if_pos CA1] at H;have a7Z:(AL7.toList == ([]:List UInt8))=true:=beq_iff_eq.mpr CA1;have b5z:(AL7.toList != ([]:List UInt8))=false:=bne_eq_false_iff_eq.mpr CA1;clear CA1;(first | rw [a7Z] | (simp only [aV,aZ];rw [a7Z]) | skip);by_cases b1h:AL9=0
            ·rw [if_pos b1h] at H;have b5A:(AL9 == 0)=true:=beq_iff_eq.mpr b1h;have b5B:(AL9 != 0)=false:=bne_eq_false_iff_eq.mpr b1h;clear b1h;obtain ⟨Ba6,E43,H⟩:=bA H;have H':=aM H;clear H;(try go_wp2);replace C3:=rD_ C3;replace C4:=rD_ C4;replace C7:=rD_ C7;replace D3:=rD_ D3;replace D4:=rD_ D4;replace D0:=rD_ D0;replace D1:=rD_ D1;replace E0:=rD_ E0;replace E1:=rD_ E1;replace E7:=rD_ E7;replace E8:=rD_ E8;replace F2:=rD_ F2;replace F3:=rD_ F3;replace H4:=rD_ H4;replace H5:=rD_ H5;replace J8:=rD_ J8;replace J9:=rD_ J9;replace N0:=rD_ N0;replace P0:=rD_ P0;replace B5:=kD_ B5;replace B6:=kD_ B6;replace B8:=kD_ B8;replace B7:=kD_ B7;replace C0:=kD_ C0;replace C2:=kD_ C2;replace C6:=kD_ C6;replace HB:=hD_ HB;generalize hd_:DU8.drew=c4y at C3 C4 C7 D3 D4 D0 D1 E0 E1 E7 E8 F2 F3 H4 H5 J8 J9 N0 P0 B5 B6 B8 B7 C0 C2 C6 HB;refine st5_ 22 hd_ B7.out (fun ag=>?_);clear hd_;refine wT_ Y14.T13 (fun HT_ HW_=>?_);(iterate 16 first | refine pa_ HT_.out ?_ | refine pz_ HT_.out ?_ | refine ta_ HT_.out HW_.out ag ?_);refine pu_ 18 120 Y14.q17 HT_.out ?_;refine tk_ 16 118 Y14.q18 HT_.out HW_.out ag ?_;refine o1_ 17 119 (nq 22 19) HT_.out (fun K hK=>?_);refine gs_ Tryz.func7 #[.agg #[.slice AF8 R5.length AF9,.slice AJ0 U5.length AJ1]] ?_;(with_reducible refine (Y67.calls kj2 _ _ R5 _ _ U5 Ba6 _ ?s1 ?s2 ?s3 ?s4 E43.out).mono ?_);(case s1=>exact de E0.out);(case s2=>exact (Kd.aA E0.out).2.1);(case s3=>exact de E1.out);(case s4=>exact (Kd.aA E1.out).2.1);rintro e c4z ⟨rfl,hb⟩;refine ⟨_,rfl,?_⟩;replace C3:=rB_ C3 hb;replace C4:=rB_ C4 hb;replace C7:=rB_ C7 hb;replace D3:=rB_ D3 hb;replace D4:=rB_ D4 hb;replace D0:=rB_ D0 hb;replace D1:=rB_ D1 hb;replace E0:=rB_ E0 hb;replace E1:=rB_ E1 hb;replace E7:=rB_ E7 hb;replace E8:=rB_ E8 hb;replace F2:=rB_ F2 hb;replace F3:=rB_ F3 hb;replace H4:=rB_ H4 hb;replace H5:=rB_ H5 hb;replace J8:=rB_ J8 hb;replace J9:=rB_ J9 hb;replace N0:=rB_ N0 hb;replace P0:=rB_ P0 hb;replace B5:=kB_ B5 hb;replace B6:=kB_ B6 hb;replace B8:=kB_ B8 hb;replace B7:=kB_ B7 hb;replace C0:=kB_ C0 hb;replace C2:=kB_ C2 hb;replace C6:=kB_ C6 hb;replace HB:=hB_ HB hb;refine hK.out _ _ (b1O B7.out) (fun ag=>?_);clear hK K;refine nm_ 119 ?_;(iterate 3 refine pa_ HT_.out ?_);refine bZ (bk HT_.out (by kernel_rfl)) ?_;(try go_wp2);go_meet;case rel=>exact ⟨_,((Ba6.toList != Ag9.toList)),(z3_),H',⟨eB HJ2.out⟩,⟨b3K C7.out⟩,⟨b3K C3.out⟩,⟨a6E C4.out⟩,⟨a8d D3.out⟩,⟨a6E D4.out⟩,⟨a8d D0.out⟩,⟨a6E D1.out⟩,⟨a8d E0.out⟩,⟨a6E E1.out⟩,⟨a8d E7.out⟩,⟨a6E E8.out⟩,⟨a8d F2.out⟩,⟨a6E F3.out⟩,⟨z0_ B5.out⟩,⟨z0_ B6.out⟩,⟨z0_ B8.out⟩,⟨z0_ B7.out⟩,⟨z0_ C0.out⟩,⟨z0_ C2.out⟩,⟨z0_ C6.out⟩,⟨z2_ HB.out⟩⟩
            ·rw [if_neg b1h] at H;have b5A:(AL9 == 0)=false:=beq_eq_false_iff_ne.mpr b1h;have b5B:(AL9 != 0)=true:=bne_iff_ne.mpr b1h;have H':=aM H;clear H;(try go_wp2);replace C3:=rD_ C3;replace C4:=rD_ C4;replace C7:=rD_ C7;replace D3:=rD_ D3;replace D4:=rD_ D4;replace D0:=rD_ D0;replace D1:=rD_ D1;replace E0:=rD_ E0;replace E1:=rD_ E1;replace E7:=rD_ E7;replace E8:=rD_ E8;replace F2:=rD_ F2;replace F3:=rD_ F3;replace H4:=rD_ H4;replace H5:=rD_ H5;replace J8:=rD_ J8;replace J9:=rD_ J9;replace N0:=rD_ N0;replace P0:=rD_ P0;replace B5:=kD_ B5;replace B6:=kD_ B6;replace B8:=kD_ B8;replace B7:=kD_ B7;replace C0:=kD_ C0;replace C2:=kD_ C2;replace C6:=kD_ C6;replace HB:=hD_ HB;generalize hd_:DU8.drew=c4A at C3 C4 C7 D3 D4 D0 D1 E0 E1 E7 E8 F2 F3 H4 H5 J8 J9 N0 P0 B5 B6 B8 B7 C0 C2 C6 HB;refine st5_ 22 hd_ B7.out (fun ag=>?_);clear hd_;refine wT_ Y14.T13 (fun HT_ HW_=>?_);(iterate 22 first | refine pz_ HT_.out ?_ | refine pa_ HT_.out ?_ | refine ta_ HT_.out HW_.out ag ?_);refine bZ (bk HT_.out (by kernel_rfl)) ?_;(try go_wp2);go_meet;case rel=>exact ⟨_,(false),(z3_),H',⟨eB HJ2.out⟩,⟨b3K C7.out⟩,⟨b3K C3.out⟩,⟨a6E C4.out⟩,⟨a8d D3.out⟩,⟨a6E D4.out⟩,⟨a8d D0.out⟩,⟨a6E D1.out⟩,⟨a8d E0.out⟩,⟨a6E E1.out⟩,⟨a8d E7.out⟩,⟨a6E E8.out⟩,⟨a8d F2.out⟩,⟨a6E F3.out⟩,⟨z0_ B5.out⟩,⟨z0_ B6.out⟩,⟨z0_ B8.out⟩,⟨z0_ B7.out⟩,⟨z0_ C0.out⟩,⟨z0_ C2.out⟩,⟨z0_ C6.out⟩,⟨z2_ HB.out⟩⟩
           ·rw [if_neg CA1] at H;have a7Z:(AL7.toList == ([]:List UInt8))=false:=beq_eq_false_iff_ne.mpr CA1;have b5z:(AL7.toList != ([]:List UInt8))=true:=bne_iff_ne.mpr CA1;(first | rw [a7Z] | (simp only [aV,aZ];rw [a7Z]) | skip);obtain ⟨⟨Ba7,Ba8,Dl1,Dl2,Dl3⟩,En5,H⟩:=bA H;(try dsimp only at H);obtain ⟨Cz5,En6,H⟩:=bA H;by_cases b7H:Cz5=true
            ·subst b7H;replace H:=fP H;by_cases b1i:AL9=0
             ·rw [if_pos b1i] at H;have b5C:(AL9 == 0)=true:=beq_iff_eq.mpr b1i;have b5D:(AL9 != 0)=false:=bne_eq_false_iff_eq.mpr b1i;clear b1i;obtain ⟨CV0,E44,H⟩:=bA H;have H':=aM H;clear H;(try go_wp2);replace C3:=rD_ C3;replace C4:=rD_ C4;replace C7:=rD_ C7;replace D3:=rD_ D3;replace D4:=rD_ D4;replace D0:=rD_ D0;replace D1:=rD_ D1;replace E0:=rD_ E0;replace E1:=rD_ E1;replace E7:=rD_ E7;replace E8:=rD_ E8;replace F2:=rD_ F2;replace F3:=rD_ F3;replace H4:=rD_ H4;replace H5:=rD_ H5;replace J8:=rD_ J8;replace J9:=rD_ J9;replace N0:=rD_ N0;replace P0:=rD_ P0;replace B5:=kD_ B5;replace B6:=kD_ B6;replace B8:=kD_ B8;replace B7:=kD_ B7;replace C0:=kD_ C0;replace C2:=kD_ C2;replace C6:=kD_ C6;replace HB:=hD_ HB;generalize hd_:DU8.drew=c4B at C3 C4 C7 D3 D4 D0 D1 E0 E1 E7 E8 F2 F3 H4 H5 J8 J9 N0 P0 B5 B6 B8 B7 C0 C2 C6 HB;refine b2B 22 hd_ B8.out B7.out (fun ag=>?_);clear hd_;refine wT_ Y14.T13 (fun HT_ HW_=>?_);(iterate 4 refine pa_ HT_.out ?_);refine tk_ 6 108 Y14.q25 HT_.out HW_.out ag ?_;refine o1_ 4 106 Y14.q26 HT_.out (fun K hK=>?_);refine gs_ Tryz.func9 #[.string AL7] ?_;(with_reducible refine (Y76.calls kj2 AL7 Ba7 Ba8 Dl1 Dl2 Dl3 _ En5.out).mono ?_);rintro e c4C ⟨En7,En8,rfl,ho0,ho1,hb⟩;refine ⟨_,rfl,?_⟩;replace N0:=rB_ N0 hb;replace P0:=rB_ P0 hb;have AJ6:=aM (Kd.bl (Kd.a1p (Kd.aJ (Kd.aJ (Kd.aJ (Kd.aJ (Kd.aJ (Kd.aJ (Kd.aJ (Kd.aJ (Kd.aJ ho0 (Kd.bH (z1_ C3.out))) (Kd.bH (z1_ C7.out))) (Kd.bH (z1_ D3.out))) (Kd.bH (z1_ D0.out))) (Kd.bH (z1_ E0.out))) (Kd.bH (z1_ E7.out))) (Kd.bH (z1_ F2.out))) (Kd.bH (z1_ H4.out))) (Kd.bH (z1_ J8.out))) (g:=L7) (o:=.cells #[.int .i64 AW3,.int .i64 AW4] 30 (0,0)) (z0_ C2.out)) (aI (z2_ HB.out)));replace C3:=rE_ C3 ho0 hb;replace C7:=rE_ C7 ho0 hb;replace D3:=rE_ D3 ho0 hb;replace D0:=rE_ D0 ho0 hb;replace E0:=rE_ E0 ho0 hb;replace E7:=rE_ E7 ho0 hb;replace F2:=rE_ F2 ho0 hb;replace H4:=rE_ H4 ho0 hb;replace J8:=rE_ J8 ho0 hb;have AJ7:=aM (Kd.bl (Kd.aJ (Kd.aJ (Kd.aJ (Kd.aJ (Kd.aJ (Kd.aJ (Kd.aJ (Kd.aJ ho1 (Kd.bH (z1_ C4.out))) (Kd.bH (z1_ D4.out))) (Kd.bH (z1_ D1.out))) (Kd.bH (z1_ E1.out))) (Kd.bH (z1_ E8.out))) (Kd.bH (z1_ F3.out))) (Kd.bH (z1_ H5.out))) (Kd.bH (z1_ J9.out))) (aI (z2_ HB.out)));replace C4:=rE_ C4 ho1 hb;replace D4:=rE_ D4 ho1 hb;replace D1:=rE_ D1 ho1 hb;replace E1:=rE_ E1 ho1 hb;replace E8:=rE_ E8 ho1 hb;replace F3:=rE_ F3 ho1 hb;replace H5:=rE_ H5 ho1 hb;replace J9:=rE_ J9 ho1 hb;replace B5:=kB_ B5 hb;replace B6:=kB_ B6 hb;replace B8:=kB_ B8 hb;replace B7:=kB_ B7 hb;replace C0:=kB_ C0 hb;replace C2:=kB_ C2 hb;replace C6:=kB_ C6 hb;replace HB:=hB_ HB hb;obtain ⟨En9,Eo0,Dl4⟩:=Kd.aE AJ6.out;(first | subst Dl4 | (injection Dl4 with f1_ f2_ f3_;have f4_:=f1_.symm;have f5_:=f3_.symm;clear f1_ f2_ f3_;subst f4_;subst f5_));obtain ⟨Eo1,Eo2,Dl5⟩:=Kd.aE AJ7.out;(first | subst Dl5 | (injection Dl5 with f1_ f2_ f3_;have f4_:=f1_.symm;have f5_:=f3_.symm;clear f1_ f2_ f3_;subst f4_;subst f5_));refine hK.out _ _ (bR B8.out (b1O B7.out)) (fun ag=>?_);clear hK K;refine nm_ 106 ?_;refine pu_ 5 107 (nq 22 7) HT_.out ?_;refine oa_ HT_.out (fun K hK=>?_);refine gs_ Tryz.func23 #[.agg #[.slice En9 Ba7.length Eo0,.slice Eo1 Ba8.length Eo2],.agg #[.slice AG1 Q0.length AE4,.slice AM3 R4.length AJ3]] ?_;(with_reducible refine (Y57.calls kj2 _ _ Ba7 _ _ Ba8 _ _ Q0 _ _ R4 true _ ?s1 ?s2 ?s3 ?s4 ?s5 ?s6 ?s7 ?s8 En6.out).mono ?_);(case s1=>exact de AJ6.out);(case s2=>exact (Kd.aA AJ6.out).2.1);(case s3=>exact de AJ7.out);(case s4=>exact (Kd.aA AJ7.out).2.1);(case s5=>exact de D0.out);(case s6=>exact (Kd.aA D0.out).2.1);(case s7=>exact de D1.out);(case s8=>exact (Kd.aA D1.out).2.1);rintro e c4D ⟨rfl,hb⟩;refine ⟨_,rfl,?_⟩;replace C3:=rB_ C3 hb;replace C4:=rB_ C4 hb;replace C7:=rB_ C7 hb;replace D3:=rB_ D3 hb;replace D4:=rB_ D4 hb;replace D0:=rB_ D0 hb;replace D1:=rB_ D1 hb;replace E0:=rB_ E0 hb;replace E1:=rB_ E1 hb;replace E7:=rB_ E7 hb;replace E8:=rB_ E8 hb;replace F2:=rB_ F2 hb;replace F3:=rB_ F3 hb;replace H4:=rB_ H4 hb;replace H5:=rB_ H5 hb;replace J8:=rB_ J8 hb;replace J9:=rB_ J9 hb;replace N0:=rB_ N0 hb;replace P0:=rB_ P0 hb;replace AJ6:=rB_ AJ6 hb;replace AJ7:=rB_ AJ7 hb;replace B5:=kB_ B5 hb;replace B6:=kB_ B6 hb;replace B8:=kB_ B8 hb;replace B7:=kB_ B7 hb;replace C0:=kB_ C0 hb;replace C2:=kB_ C2 hb;replace C6:=kB_ C6 hb;replace HB:=hB_ HB hb;refine hK.out _ _ (bR B8.out (b1O B7.out)) (fun ag=>?_);clear hK K;refine nm_ 109 ?_;(iterate 8 first | refine pa_ HT_.out ?_ | refine ta_ HT_.out HW_.out ag ?_);refine pu_ 18 120 Y14.q17 HT_.out ?_;refine tk_ 16 118 Y14.q18 HT_.out HW_.out ag ?_;refine o1_ 17 119 (nq 22 19) HT_.out (fun K hK=>?_);refine gs_ Tryz.func7 #[.agg #[.slice AF8 R5.length AF9,.slice AJ0 U5.length AJ1]] ?_;(with_reducible refine (Y67.calls kj2 _ _ R5 _ _ U5 CV0 _ ?s1 ?s2 ?s3 ?s4 E44.out).mono ?_);(case s1=>exact de E0.out);(case s2=>exact (Kd.aA E0.out).2.1);(case s3=>exact de E1.out);(case s4=>exact (Kd.aA E1.out).2.1);rintro e c4E ⟨rfl,hb⟩;refine ⟨_,rfl,?_⟩;replace C3:=rB_ C3 hb;replace C4:=rB_ C4 hb;replace C7:=rB_ C7 hb;replace D3:=rB_ D3 hb;replace D4:=rB_ D4 hb;replace D0:=rB_ D0 hb;replace D1:=rB_ D1 hb;replace E0:=rB_ E0 hb;replace E1:=rB_ E1 hb;replace E7:=rB_ E7 hb;replace E8:=rB_ E8 hb;replace F2:=rB_ F2 hb;replace F3:=rB_ F3 hb;replace H4:=rB_ H4 hb;replace H5:=rB_ H5 hb;replace J8:=rB_ J8 hb;replace J9:=rB_ J9 hb;replace N0:=rB_ N0 hb;replace P0:=rB_ P0 hb;replace AJ6:=rB_ AJ6 hb;replace AJ7:=rB_ AJ7 hb;replace B5:=kB_ B5 hb;replace B6:=kB_ B6 hb;replace B8:=kB_ B8 hb;replace B7:=kB_ B7 hb;replace C0:=kB_ C0 hb;replace C2:=kB_ C2 hb;replace C6:=kB_ C6 hb;replace HB:=hB_ HB hb;refine hK.out _ _ (bR B8.out (b1O B7.out)) (fun ag=>?_);clear hK K;refine nm_ 119 ?_;(iterate 3 refine pa_ HT_.out ?_);refine bZ (bk HT_.out (by kernel_rfl)) ?_;(try go_wp2);go_meet;case rel=>exact ⟨_,((CV0.toList != Ag9.toList)),(z3_),H',⟨eB HJ2.out⟩,⟨b3D C7.out⟩,⟨b3D C3.out⟩,⟨a6J C4.out⟩,⟨a8i D3.out⟩,⟨a6J D4.out⟩,⟨a8i D0.out⟩,⟨a6J D1.out⟩,⟨a8i E0.out⟩,⟨a6J E1.out⟩,⟨a8i E7.out⟩,⟨a6J E8.out⟩,⟨a8i F2.out⟩,⟨a6J F3.out⟩,⟨z0_ B5.out⟩,⟨z0_ B6.out⟩,⟨z0_ B8.out⟩,⟨z0_ B7.out⟩,⟨z0_ C0.out⟩,⟨z0_ C2.out⟩,⟨z0_ C6.out⟩,⟨z2_ HB.out⟩⟩
             ·rw [if_neg b1i] at H;have b5C:(AL9 == 0)=false:=beq_eq_false_iff_ne.mpr b1i;have b5D:(AL9 != 0)=true:=bne_iff_ne.mpr b1i;have H':=aM H;clear H;(try go_wp2);replace C3:=rD_ C3;replace C4:=rD_ C4;replace C7:=rD_ C7;replace D3:=rD_ D3;replace D4:=rD_ D4;replace D0:=rD_ D0;replace D1:=rD_ D1;replace E0:=rD_ E0;replace E1:=rD_ E1;replace E7:=rD_ E7;replace E8:=rD_ E8;replace F2:=rD_ F2;replace F3:=rD_ F3;replace H4:=rD_ H4;replace H5:=rD_ H5;replace J8:=rD_ J8;replace J9:=rD_ J9;replace N0:=rD_ N0;replace P0:=rD_ P0;replace B5:=kD_ B5;replace B6:=kD_ B6;replace B8:=kD_ B8;replace B7:=kD_ B7;replace C0:=kD_ C0;replace C2:=kD_ C2;replace C6:=kD_ C6;replace HB:=hD_ HB;generalize hd_:DU8.drew=c4F at C3 C4 C7 D3 D4 D0 D1 E0 E1 E7 E8 F2 F3 H4 H5 J8 J9 N0 P0 B5 B6 B8 B7 C0 C2 C6 HB;refine b2B 22 hd_ B8.out B7.out (fun ag=>?_);clear hd_;refine wT_ Y14.T13 (fun HT_ HW_=>?_);(iterate 4 refine pa_ HT_.out ?_);refine tk_ 6 108 Y14.q25 HT_.out HW_.out ag ?_;refine o1_ 4 106 Y14.q26 HT_.out (fun K hK=>?_);refine gs_ Tryz.func9 #[.string AL7] ?_;(with_reducible refine (Y76.calls kj2 AL7 Ba7 Ba8 Dl1 Dl2 Dl3 _ En5.out).mono ?_);rintro e c4G ⟨En7,En8,rfl,ho0,ho1,hb⟩;refine ⟨_,rfl,?_⟩;replace N0:=rB_ N0 hb;replace P0:=rB_ P0 hb;have AJ6:=aM (Kd.bl (Kd.a1p (Kd.aJ (Kd.aJ (Kd.aJ (Kd.aJ (Kd.aJ (Kd.aJ (Kd.aJ (Kd.aJ (Kd.aJ ho0 (Kd.bH (z1_ C3.out))) (Kd.bH (z1_ C7.out))) (Kd.bH (z1_ D3.out))) (Kd.bH (z1_ D0.out))) (Kd.bH (z1_ E0.out))) (Kd.bH (z1_ E7.out))) (Kd.bH (z1_ F2.out))) (Kd.bH (z1_ H4.out))) (Kd.bH (z1_ J8.out))) (g:=L7) (o:=.cells #[.int .i64 AW3,.int .i64 AW4] 30 (0,0)) (z0_ C2.out)) (aI (z2_ HB.out)));replace C3:=rE_ C3 ho0 hb;replace C7:=rE_ C7 ho0 hb;replace D3:=rE_ D3 ho0 hb;replace D0:=rE_ D0 ho0 hb;replace E0:=rE_ E0 ho0 hb;replace E7:=rE_ E7 ho0 hb;replace F2:=rE_ F2 ho0 hb;replace H4:=rE_ H4 ho0 hb;replace J8:=rE_ J8 ho0 hb;have AJ7:=aM (Kd.bl (Kd.aJ (Kd.aJ (Kd.aJ (Kd.aJ (Kd.aJ (Kd.aJ (Kd.aJ (Kd.aJ ho1 (Kd.bH (z1_ C4.out))) (Kd.bH (z1_ D4.out))) (Kd.bH (z1_ D1.out))) (Kd.bH (z1_ E1.out))) (Kd.bH (z1_ E8.out))) (Kd.bH (z1_ F3.out))) (Kd.bH (z1_ H5.out))) (Kd.bH (z1_ J9.out))) (aI (z2_ HB.out)));replace C4:=rE_ C4 ho1 hb;replace D4:=rE_ D4 ho1 hb;replace D1:=rE_ D1 ho1 hb;replace E1:=rE_ E1 ho1 hb;replace E8:=rE_ E8 ho1 hb;replace F3:=rE_ F3 ho1 hb;replace H5:=rE_ H5 ho1 hb;replace J9:=rE_ J9 ho1 hb;replace B5:=kB_ B5 hb;replace B6:=kB_ B6 hb;replace B8:=kB_ B8 hb;replace B7:=kB_ B7 hb;replace C0:=kB_ C0 hb;replace C2:=kB_ C2 hb;replace C6:=kB_ C6 hb;replace HB:=hB_ HB hb;obtain ⟨Eo3,Eo4,Dl6⟩:=Kd.aE AJ6.out;(first | subst Dl6 | (injection Dl6 with f1_ f2_ f3_;have f4_:=f1_.symm;have f5_:=f3_.symm;clear f1_ f2_ f3_;subst f4_;subst f5_));obtain ⟨Eo5,Eo6,Dl7⟩:=Kd.aE AJ7.out;(first | subst Dl7 | (injection Dl7 with f1_ f2_ f3_;have f4_:=f1_.symm;have f5_:=f3_.symm;clear f1_ f2_ f3_;subst f4_;subst f5_));refine hK.out _ _ (bR B8.out (b1O B7.out)) (fun ag=>?_);clear hK K;refine nm_ 106 ?_;refine pu_ 5 107 (nq 22 7) HT_.out ?_;refine oa_ HT_.out (fun K hK=>?_);refine gs_ Tryz.func23 #[.agg #[.slice Eo3 Ba7.length Eo4,.slice Eo5 Ba8.length Eo6],.agg #[.slice AG1 Q0.length AE4,.slice AM3 R4.length AJ3]] ?_;(with_reducible refine (Y57.calls kj2 _ _ Ba7 _ _ Ba8 _ _ Q0 _ _ R4 true _ ?s1 ?s2 ?s3 ?s4 ?s5 ?s6 ?s7 ?s8 En6.out).mono ?_);(case s1=>exact de AJ6.out);(case s2=>exact (Kd.aA AJ6.out).2.1);(case s3=>exact de AJ7.out);(case s4=>exact (Kd.aA AJ7.out).2.1);(case s5=>exact de D0.out);(case s6=>exact (Kd.aA D0.out).2.1);(case s7=>exact de D1.out);(case s8=>exact (Kd.aA D1.out).2.1);rintro e c4H ⟨rfl,hb⟩;refine ⟨_,rfl,?_⟩;replace C3:=rB_ C3 hb;replace C4:=rB_ C4 hb;replace C7:=rB_ C7 hb;replace D3:=rB_ D3 hb;replace D4:=rB_ D4 hb;replace D0:=rB_ D0 hb;replace D1:=rB_ D1 hb;replace E0:=rB_ E0 hb;replace E1:=rB_ E1 hb;replace E7:=rB_ E7 hb;replace E8:=rB_ E8 hb;replace F2:=rB_ F2 hb;replace F3:=rB_ F3 hb;replace H4:=rB_ H4 hb;replace H5:=rB_ H5 hb;replace J8:=rB_ J8 hb;replace J9:=rB_ J9 hb;replace N0:=rB_ N0 hb;replace P0:=rB_ P0 hb;replace AJ6:=rB_ AJ6 hb;replace AJ7:=rB_ AJ7 hb;replace B5:=kB_ B5 hb;replace B6:=kB_ B6 hb;replace B8:=kB_ B8 hb;replace B7:=kB_ B7 hb;replace C0:=kB_ C0 hb;replace C2:=kB_ C2 hb;replace C6:=kB_ C6 hb;replace HB:=hB_ HB hb;refine hK.out _ _ (bR B8.out (b1O B7.out)) (fun ag=>?_);clear hK K;refine nm_ 109 ?_;(iterate 14 first | refine pa_ HT_.out ?_ | refine pz_ HT_.out ?_ | refine ta_ HT_.out HW_.out ag ?_);refine bZ (bk HT_.out (by kernel_rfl)) ?_;(try go_wp2);go_meet;case rel=>exact ⟨_,(false),(z3_),H',⟨eB HJ2.out⟩,⟨b3D C7.out⟩,⟨b3D C3.out⟩,⟨a6J C4.out⟩,⟨a8i D3.out⟩,⟨a6J D4.out⟩,⟨a8i D0.out⟩,⟨a6J D1.out⟩,⟨a8i E0.out⟩,⟨a6J E1.out⟩,⟨a8i E7.out⟩,⟨a6J E8.out⟩,⟨a8i F2.out⟩,⟨a6J F3.out⟩,⟨z0_ B5.out⟩,⟨z0_ B6.out⟩,⟨z0_ B8.out⟩,⟨z0_ B7.out⟩,⟨z0_ C0.out⟩,⟨z0_ C2.out⟩,⟨z0_ C6.out⟩,⟨z2_ HB.out⟩⟩
            ·obtain rfl:=bF b7H;replace H:=fN H;exact nO H
          case rest=>as_aux_lemma =>
           clear D85;obtain ⟨kq,BL9,rfl,HA,Eo7,U9,L8,L9,I9,K5,N4,N5,N6,N7,N8,N9,O0,O1,B5,B6,B8,B7,C0,C2,C6,HB⟩:=hcut
           cases kq with
           | zero=>exact absurd HA.out (by simp [Y14.j1])
           | succ Eo8 =>
            have H:=HA.out;clear HA;simp only [Y14.j1] at H;by_cases b7I:BL9=true
            ·subst b7I;replace H:=fP H;exact nO H
            ·obtain rfl:=bF b7I;replace H:=fN H;by_cases b1j:AS9=0
             ·rw [if_pos b1j] at H;have b5E:(AS9 == 0)=true:=beq_iff_eq.mpr b1j;have b5F:(AS9 != 0)=false:=bne_eq_false_iff_eq.mpr b1j;clear b1j;have H':=aM H;clear H;have c0b:=AM2.out;have c0c:=AM1.out;have c0d:=AW5.out;have c0e:=AW6.out;have c0f:=AW7.out;have c0g:=AW8.out;have c0h:=AW9.out;have c0i:=AX0.out;have c0j:=AX1.out;have c0k:=AX2.out;have c0l:=AM4.out;have c0m:=AX4.out;have ⟨b7J,b7K,b7L,b7M,b7N,b7O,b7P,b7Q,b7R,b7S⟩:=eD B6.out;go_wp2;go_loopg [18] Eo8 (fun kq v18 w'=>∃ (N3:Int),v18 = .int .i64 N3∧af (Y14.l0 kq R0 N3 O2 J5 P3 R1 AW1 AW2 AS9=some r)∧af (kq≤Eo8)∧af (Kd.R k30 30 w' w.heap.size (fun k_=>some k_≠((.slice AB2 O2.length l8):Value).ownBlock∧some k_≠((.slice AE3 P3.length AC7):Value).ownBlock∧some k_≠((.slice AG1 Q0.length AE4):Value).ownBlock∧some k_≠((.slice AF8 R5.length AF9):Value).ownBlock∧some k_≠((.slice j7 R2.length j8):Value).ownBlock∧some k_≠((.slice AJ4 U0.length AJ5):Value).ownBlock∧k_≠L7) (.slice AM0 R0.length AG4) R0)∧af (Kd.R k30 30 w' w.heap.size (fun k_=>some k_≠((.slice AM0 R0.length AG4):Value).ownBlock∧some k_≠((.slice AE3 P3.length AC7):Value).ownBlock∧some k_≠((.slice AG1 Q0.length AE4):Value).ownBlock∧some k_≠((.slice AF8 R5.length AF9):Value).ownBlock∧some k_≠((.slice j7 R2.length j8):Value).ownBlock∧some k_≠((.slice AJ4 U0.length AJ5):Value).ownBlock∧k_≠L7) (.slice AB2 O2.length l8) O2)∧af (Kd.R k48 48 w' w.heap.size (fun k_=>some k_≠((.slice AC8 R1.length AC9):Value).ownBlock∧some k_≠((.slice AM3 R4.length AJ3):Value).ownBlock∧some k_≠((.slice AJ0 U5.length AJ1):Value).ownBlock∧some k_≠((.slice AK4 U2.length AK5):Value).ownBlock∧some k_≠((.slice AP6 V8.length AP7):Value).ownBlock) (.slice AJ2 J5.length AG0) J5)∧af (Kd.R k30 30 w' w.heap.size (fun k_=>some k_≠((.slice AM0 R0.length AG4):Value).ownBlock∧some k_≠((.slice AB2 O2.length l8):Value).ownBlock∧some k_≠((.slice AG1 Q0.length AE4):Value).ownBlock∧some k_≠((.slice AF8 R5.length AF9):Value).ownBlock∧some k_≠((.slice j7 R2.length j8):Value).ownBlock∧some k_≠((.slice AJ4 U0.length AJ5):Value).ownBlock∧k_≠L7) (.slice AE3 P3.length AC7) P3)∧af (Kd.R k48 48 w' w.heap.size (fun k_=>some k_≠((.slice AJ2 J5.length AG0):Value).ownBlock∧some k_≠((.slice AM3 R4.length AJ3):Value).ownBlock∧some k_≠((.slice AJ0 U5.length AJ1):Value).ownBlock∧some k_≠((.slice AK4 U2.length AK5):Value).ownBlock∧some k_≠((.slice AP6 V8.length AP7):Value).ownBlock) (.slice AC8 R1.length AC9) R1)∧af (Kd.R k30 30 w' w.heap.size (fun k_=>some k_≠((.slice AM0 R0.length AG4):Value).ownBlock∧some k_≠((.slice AB2 O2.length l8):Value).ownBlock∧some k_≠((.slice AE3 P3.length AC7):Value).ownBlock∧some k_≠((.slice AF8 R5.length AF9):Value).ownBlock∧some k_≠((.slice j7 R2.length j8):Value).ownBlock∧some k_≠((.slice AJ4 U0.length AJ5):Value).ownBlock∧k_≠L7) (.slice AG1 Q0.length AE4) Q0)∧af (Kd.R k48 48 w' w.heap.size (fun k_=>some k_≠((.slice AJ2 J5.length AG0):Value).ownBlock∧some k_≠((.slice AC8 R1.length AC9):Value).ownBlock∧some k_≠((.slice AJ0 U5.length AJ1):Value).ownBlock∧some k_≠((.slice AK4 U2.length AK5):Value).ownBlock∧some k_≠((.slice AP6 V8.length AP7):Value).ownBlock) (.slice AM3 R4.length AJ3) R4)∧af (Kd.R k30 30 w' w.heap.size (fun k_=>some k_≠((.slice AM0 R0.length AG4):Value).ownBlock∧some k_≠((.slice AB2 O2.length l8):Value).ownBlock∧some k_≠((.slice AE3 P3.length AC7):Value).ownBlock∧some k_≠((.slice AG1 Q0.length AE4):Value).ownBlock∧some k_≠((.slice j7 R2.length j8):Value).ownBlock∧some k_≠((.slice AJ4 U0.length AJ5):Value).ownBlock∧k_≠L7) (.slice AF8 R5.length AF9) R5)∧af (Kd.R k48 48 w' w.heap.size (fun k_=>some k_≠((.slice AJ2 J5.length AG0):Value).ownBlock∧some k_≠((.slice AC8 R1.length AC9):Value).ownBlock∧some k_≠((.slice AM3 R4.length AJ3):Value).ownBlock∧some k_≠((.slice AK4 U2.length AK5):Value).ownBlock∧some k_≠((.slice AP6 V8.length AP7):Value).ownBlock) (.slice AJ0 U5.length AJ1) U5)∧af (Kd.R k30 30 w' w.heap.size (fun k_=>some k_≠((.slice AM0 R0.length AG4):Value).ownBlock∧some k_≠((.slice AB2 O2.length l8):Value).ownBlock∧some k_≠((.slice AE3 P3.length AC7):Value).ownBlock∧some k_≠((.slice AG1 Q0.length AE4):Value).ownBlock∧some k_≠((.slice AF8 R5.length AF9):Value).ownBlock∧some k_≠((.slice AJ4 U0.length AJ5):Value).ownBlock∧k_≠L7) (.slice j7 R2.length j8) R2)∧af (Kd.R k48 48 w' w.heap.size (fun k_=>some k_≠((.slice AJ2 J5.length AG0):Value).ownBlock∧some k_≠((.slice AC8 R1.length AC9):Value).ownBlock∧some k_≠((.slice AM3 R4.length AJ3):Value).ownBlock∧some k_≠((.slice AJ0 U5.length AJ1):Value).ownBlock∧some k_≠((.slice AP6 V8.length AP7):Value).ownBlock) (.slice AK4 U2.length AK5) U2)∧af (Kd.R k30 30 w' w.heap.size (fun k_=>some k_≠((.slice AM0 R0.length AG4):Value).ownBlock∧some k_≠((.slice AB2 O2.length l8):Value).ownBlock∧some k_≠((.slice AE3 P3.length AC7):Value).ownBlock∧some k_≠((.slice AG1 Q0.length AE4):Value).ownBlock∧some k_≠((.slice AF8 R5.length AF9):Value).ownBlock∧some k_≠((.slice j7 R2.length j8):Value).ownBlock∧k_≠L7) (.slice AJ4 U0.length AJ5) U0)∧af (Kd.R k48 48 w' w.heap.size (fun k_=>some k_≠((.slice AJ2 J5.length AG0):Value).ownBlock∧some k_≠((.slice AC8 R1.length AC9):Value).ownBlock∧some k_≠((.slice AM3 R4.length AJ3):Value).ownBlock∧some k_≠((.slice AJ0 U5.length AJ1):Value).ownBlock∧some k_≠((.slice AK4 U2.length AK5):Value).ownBlock) (.slice AP6 V8.length AP7) V8)∧af (w'.heap[BA6]? = some (.cells #[(.slice AB2 O2.length l8),(.slice AJ2 J5.length AG0)] 26 (0,0)))∧af (w'.heap[Ag3]? = some (.cells #[(.slice AE3 P3.length AC7),(.slice AC8 R1.length AC9),.int .i64 AW1,.int .i64 AW2,.int .i64 AS9] 32 (0,0)))∧af (w'.heap[Bl0]? = some (.cells #[(.slice AG1 Q0.length AE4),(.slice AM3 R4.length AJ3)] 26 (0,0)))∧af (w'.heap[Bl1]? = some (.cells #[(.slice AF8 R5.length AF9),(.slice AJ0 U5.length AJ1),.int .i64 BS8,.int .i64 BS9,.int .i64 AL9] 32 (0,0)))∧af (w'.heap[Ah3]? = some (.cells #[(.slice j7 R2.length j8),(.slice AK4 U2.length AK5)] 26 (0,0)))∧af (w'.heap[L7]? = some (.cells #[.int .i64 AW3,.int .i64 AW4] 30 (0,0)))∧af (w'.heap[BT0]? = some (.cells #[(.slice AJ4 U0.length AJ5),(.slice AP6 V8.length AP7)] 26 (0,0)))∧af (Below w.heap.size w w'));case atStart=>exact ⟨(0),(z3_),H',⟨Nat.le_refl _⟩,⟨z1_ U9.out⟩,⟨z1_ L8.out⟩,⟨z1_ L9.out⟩,⟨z1_ I9.out⟩,⟨z1_ K5.out⟩,⟨z1_ N4.out⟩,⟨z1_ N5.out⟩,⟨z1_ N6.out⟩,⟨z1_ N7.out⟩,⟨z1_ N8.out⟩,⟨z1_ N9.out⟩,⟨z1_ O0.out⟩,⟨z1_ O1.out⟩,⟨z0_ B5.out⟩,⟨z0_ B6.out⟩,⟨z0_ B8.out⟩,⟨z0_ B7.out⟩,⟨z0_ C0.out⟩,⟨z0_ C2.out⟩,⟨z0_ C6.out⟩,⟨z2_ HB.out⟩⟩
              case round=>as_aux_lemma =>
               clear H';obtain ⟨N3,rfl,HA,HK3,U9,L8,L9,I9,K5,N4,N5,N6,N7,N8,N9,O0,O1,B5,B6,B8,B7,C0,C2,C6,HB⟩:=hrel
               cases gk with
               | zero=>exact absurd HA.out (by simp [Y14.l0])
               | succ k3 =>
                have H:=HA.out;clear HA;simp only [Y14.l0] at H;by_cases b2q:N3<(J5.length:Int)
                ·rw [if_pos b2q] at H;have b5G:decide (N3<(J5.length:Int))=true:=dE b2q;clear b2q;by_cases DU9:0≤N3
                 ·rw [if_pos DU9] at H;have c0n:decide (0≤N3)=true:=dE DU9;clear DU9;obtain ⟨BC3,E45,H⟩:=bA H;obtain ⟨BC4,E46,H⟩:=bA H;by_cases b1k:(BC3 == BC4)=true
                  ·rw [if_pos b1k] at H;exact nO H
                  ·rw [if_neg b1k] at H;(have c0o:(BC3 == BC4)=false:=by simpa using b1k);(try (have c0p:decide (BC3=BC4)=false:=by simpa using b1k));(try (have c0q:(BC3 == BC4)=false:=by simpa using b1k));(try (have c0r:¬ (BC3=BC4):=by simpa using b1k));clear b1k;have H':=aM H;clear H;have c0s:=AM1.out;have c0t:=AM2.out;have c0u:=Ak8.out;have c0v:=Ak9.out;have c0w:=Al0.out;have c0x:=Al1.out;have c0y:=Al2.out;have c0z:=Al3.out;have c0A:=Al4.out;have c0B:=Al5.out;have c0C:=AX3.out;have c0D:=Al8.out;have ⟨b7T,b7U,b7V,b7W⟩:=bu B5.out;(try go_wp2);replace U9:=rD_ U9;replace L8:=rD_ L8;replace L9:=rD_ L9;replace I9:=rD_ I9;replace K5:=rD_ K5;replace N4:=rD_ N4;replace N5:=rD_ N5;replace N6:=rD_ N6;replace N7:=rD_ N7;replace N8:=rD_ N8;replace N9:=rD_ N9;replace O0:=rD_ O0;replace O1:=rD_ O1;replace B5:=kD_ B5;replace B6:=kD_ B6;replace B8:=kD_ B8;replace B7:=kD_ B7;replace C0:=kD_ C0;replace C2:=kD_ C2;replace C6:=kD_ C6;replace HB:=hD_ HB;have C09:0≤(N3:Int):=dT (z4_);have C10:N3<(J5.length:Int):=dT (z4_);obtain ⟨AB5,Eo9,B28,B29,B30,B31⟩:=cQ (Kd.aA L9.out).2.2 N3 C09 C10;cases Eo9;replace C09:=eq_true C09;replace C10:=eq_true C10;have C11:0≤(N3:Int):=dT (z4_);have C12:N3<(J5.length:Int):=dT (z4_);obtain ⟨D86,Ep0,B32,B33,B34,B35⟩:=cQ (Kd.aA L9.out).2.2 N3 C11 C12;obtain rfl:AB5=D86:=(by injection Ep0);replace C11:=eq_true C11;replace C12:=eq_true C12;refine cH (n:=18) (S:=fun w'=>w'.cell? ⟨Ag3,0,none⟩=some (.slice AE3 P3.length AC7)∧w'.cell? ⟨Ag3,1,none⟩=some (.slice AC8 R1.length AC9)∧w'.cell? ⟨Ag3,2,none⟩=some (.int .i64 AW1)∧w'.cell? ⟨Ag3,3,none⟩=some (.int .i64 AW2)∧w'.cell? ⟨Ag3,4,none⟩=some (.int .i64 AS9)∧w'.cell? ⟨BA6,0,none⟩=some (.slice AB2 O2.length l8)∧w'.cell? ⟨BA6,1,none⟩=some (.slice (some AB5) J5.length AG0)∧w'.cell? (AB5.add ((N3).toNat*4))=some (.int .i64 ((aa J5 N3).f0.f0))∧w'.cell? ⟨(AB5.add ((N3).toNat*4)).block,(AB5.add ((N3).toNat*4)).off+1,none⟩=some (.int .i64 ((aa J5 N3).f0.f1))∧w'.cell? ⟨(AB5.add ((N3).toNat*4)).block,(AB5.add ((N3).toNat*4)).off+2,none⟩=some (.bool ((aa J5 N3).f1))∧w'.cell? ⟨(AB5.add ((N3).toNat*4)).block,(AB5.add ((N3).toNat*4)).off+3,none⟩=some (.string ((aa J5 N3).f2))∧w'.cell? (AB5.add ((N3).toNat*4))=some (.int .i64 ((aa J5 N3).f0.f0))∧w'.cell? ⟨(AB5.add ((N3).toNat*4)).block,(AB5.add ((N3).toNat*4)).off+1,none⟩=some (.int .i64 ((aa J5 N3).f0.f1))∧w'.cell? ⟨(AB5.add ((N3).toNat*4)).block,(AB5.add ((N3).toNat*4)).off+2,none⟩=some (.bool ((aa J5 N3).f1))∧w'.cell? ⟨(AB5.add ((N3).toNat*4)).block,(AB5.add ((N3).toNat*4)).off+3,none⟩=some (.string ((aa J5 N3).f2))) (ds:=[]) (nq 18 0) (by kernel_rfl) rfl rfl (fe B6.out (bR B5.out ⟨B28,⟨B29,⟨B30,⟨B31,⟨B32,⟨B33,⟨B34,B35⟩⟩⟩⟩⟩⟩⟩)) (fun ag=>?_);refine wT_ Y14.T20 (fun HT_ HW_=>?_);generalize wr.drew=c4I at U9 L8 L9 I9 K5 N4 N5 N6 N7 N8 N9 O0 O1 B5 B6 B8 B7 C0 C2 C6 HB B28 B29 B30 B31 B32 B33 B34 B35 ag ⊢;refine pa_ HT_.out ?_;refine pu_ 2 136 #[I,O,I,O,O,O,O,O,O,O,O,O,O,O,O,O,O,O] HT_.out ?_;refine pu_ 4 138 #[I,O,I,O,I,O,O,O,O,O,O,O,O,O,O,O,O,O] HT_.out ?_;refine pu_ 9 143 #[I,O,I,O,I,O,O,O,O,I,O,O,O,O,O,O,O,O] HT_.out ?_;refine pu_ 10 144 #[I,O,I,O,I,O,O,O,O,I,I,O,O,O,O,O,O,O] HT_.out ?_;refine pu_ 12 146 #[I,O,I,O,I,O,O,O,O,I,I,O,I,O,O,O,O,O] HT_.out ?_;refine tk_ 1 135 #[I,I,I,O,I,O,O,O,O,I,I,O,I,O,O,O,O,O] HT_.out HW_.out ag ?_;refine tk_ 3 137 #[I,I,I,I,I,O,O,O,O,I,I,O,I,O,O,O,O,O] HT_.out HW_.out ag ?_;refine pu_ 5 139 #[I,I,I,I,I,I,O,O,O,I,I,O,I,O,O,O,O,O] HT_.out ?_;refine pu_ 6 140 #[I,I,I,I,I,I,I,O,O,I,I,O,I,O,O,O,O,O] HT_.out ?_;refine tk_ 7 141 #[I,I,I,I,I,I,I,I,O,I,I,O,I,O,O,O,O,O] HT_.out HW_.out ag ?_;refine tk_ 11 145 #[I,I,I,I,I,I,I,I,O,I,I,I,I,O,O,O,O,O] HT_.out HW_.out ag ?_;refine pu_ 13 147 #[I,I,I,I,I,I,I,I,O,I,I,I,I,I,O,O,O,O] HT_.out ?_;refine pu_ 14 148 #[I,I,I,I,I,I,I,I,O,I,I,I,I,I,I,O,O,O] HT_.out ?_;refine tk_ 15 149 #[I,I,I,I,I,I,I,I,O,I,I,I,I,I,I,I,O,O] HT_.out HW_.out ag ?_;refine o1_ 8 142 (nq 18 16) HT_.out (fun K hK=>?_);refine gs_ Tryz.func16 #[.agg #[.slice AE3 P3.length AC7,.slice AC8 R1.length AC9],.agg #[.int .i64 ((aa J5 N3).f0.f0),.int .i64 ((aa J5 N3).f0.f1)]] ?_;(with_reducible refine (Y77.calls k3 _ _ P3 _ _ R1 ((aa J5 N3).f0.f0) ((aa J5 N3).f0.f1) BC3 _ ?s1 ?s2 ?s3 ?s4 E45.out).mono ?_);(case s1=>exact de I9.out);(case s2=>exact (Kd.aA I9.out).2.1);(case s3=>exact de K5.out);(case s4=>exact (Kd.aA K5.out).2.1);rintro e c4J ⟨rfl,hb⟩;have Cp2:=wc_ hb ag.2.2.2.2.2.2.2.1;have D87:=wc_ hb ag.2.2.2.2.2.2.2.2.1;have D88:=wc_ hb ag.2.2.2.2.2.2.2.2.2.1;have C13:=wc_ hb ag.2.2.2.2.2.2.2.2.2.2.1;have C14:=wc_ hb ag.2.2.2.2.2.2.2.2.2.2.2.1;have C15:=wc_ hb ag.2.2.2.2.2.2.2.2.2.2.2.2.1;have C16:=wc_ hb ag.2.2.2.2.2.2.2.2.2.2.2.2.2.1;have C17:=wc_ hb ag.2.2.2.2.2.2.2.2.2.2.2.2.2.2;refine ⟨_,rfl,?_⟩;replace U9:=rB_ U9 hb;replace L8:=rB_ L8 hb;replace L9:=rB_ L9 hb;replace I9:=rB_ I9 hb;replace K5:=rB_ K5 hb;replace N4:=rB_ N4 hb;replace N5:=rB_ N5 hb;replace N6:=rB_ N6 hb;replace N7:=rB_ N7 hb;replace N8:=rB_ N8 hb;replace N9:=rB_ N9 hb;replace O0:=rB_ O0 hb;replace O1:=rB_ O1 hb;replace B5:=kB_ B5 hb;replace B6:=kB_ B6 hb;replace B8:=kB_ B8 hb;replace B7:=kB_ B7 hb;replace C0:=kB_ C0 hb;replace C2:=kB_ C2 hb;replace C6:=kB_ C6 hb;replace HB:=hB_ HB hb;refine hK.out _ _ (fe B6.out (bR B5.out ⟨Cp2,⟨D87,⟨D88,⟨C13,⟨C14,⟨C15,⟨C16,C17⟩⟩⟩⟩⟩⟩⟩)) (fun ag=>?_);clear hK K;refine nm_ 142 ?_;refine oa_ HT_.out (fun K hK=>?_);refine gs_ Tryz.func24 #[.slice AM0 R0.length AG4,.agg #[.int .i64 ((aa J5 N3).f0.f0),.int .i64 ((aa J5 N3).f0.f1)]] ?_;(with_reducible refine (Y36.calls k3 _ _ R0 ((aa J5 N3).f0.f0) ((aa J5 N3).f0.f1) BC4 _ ?s1 ?s2 E46.out).mono ?_);(case s1=>exact de U9.out);(case s2=>exact (Kd.aA U9.out).2.1);rintro e c4K ⟨rfl,hb⟩;have Cp2:=wc_ hb ag.2.2.2.2.2.2.2.1;have D87:=wc_ hb ag.2.2.2.2.2.2.2.2.1;have D88:=wc_ hb ag.2.2.2.2.2.2.2.2.2.1;have C13:=wc_ hb ag.2.2.2.2.2.2.2.2.2.2.1;have C14:=wc_ hb ag.2.2.2.2.2.2.2.2.2.2.2.1;have C15:=wc_ hb ag.2.2.2.2.2.2.2.2.2.2.2.2.1;have C16:=wc_ hb ag.2.2.2.2.2.2.2.2.2.2.2.2.2.1;have C17:=wc_ hb ag.2.2.2.2.2.2.2.2.2.2.2.2.2.2;refine ⟨_,rfl,?_⟩;replace U9:=rB_ U9 hb;replace L8:=rB_ L8 hb;replace L9:=rB_ L9 hb;replace I9:=rB_ I9 hb;replace K5:=rB_ K5 hb;replace N4:=rB_ N4 hb;replace N5:=rB_ N5 hb;replace N6:=rB_ N6 hb;replace N7:=rB_ N7 hb;replace N8:=rB_ N8 hb;replace N9:=rB_ N9 hb;replace O0:=rB_ O0 hb;replace O1:=rB_ O1 hb;replace B5:=kB_ B5 hb;replace B6:=kB_ B6 hb;replace B8:=kB_ B8 hb;replace B7:=kB_ B7 hb;replace C0:=kB_ C0 hb;replace C2:=kB_ C2 hb;replace C6:=kB_ C6 hb;replace HB:=hB_ HB hb;refine hK.out _ _ (fe B6.out (bR B5.out ⟨Cp2,⟨D87,⟨D88,⟨C13,⟨C14,⟨C15,⟨C16,C17⟩⟩⟩⟩⟩⟩⟩)) (fun ag=>?_);clear hK K;refine nm_ 150 ?_;refine pa_ HT_.out ?_;refine bZ (bk HT_.out (by kernel_rfl)) ?_;(try go_wp2);go_roundg k3;(case measure=>have:=HJ2.out;have:=Eo7.out;have:=HK3.out;omega);case rel=>exact ⟨(wrap64 (N3+1)),(z3_),H',⟨by have:=HJ2.out;have:=Eo7.out;have:=HK3.out;omega⟩,⟨z1_ U9.out⟩,⟨z1_ L8.out⟩,⟨z1_ L9.out⟩,⟨z1_ I9.out⟩,⟨z1_ K5.out⟩,⟨z1_ N4.out⟩,⟨z1_ N5.out⟩,⟨z1_ N6.out⟩,⟨z1_ N7.out⟩,⟨z1_ N8.out⟩,⟨z1_ N9.out⟩,⟨z1_ O0.out⟩,⟨z1_ O1.out⟩,⟨z0_ B5.out⟩,⟨z0_ B6.out⟩,⟨z0_ B8.out⟩,⟨z0_ B7.out⟩,⟨z0_ C0.out⟩,⟨z0_ C2.out⟩,⟨z0_ C6.out⟩,⟨z2_ HB.out⟩⟩
                 ·exact nN DU9 H
                ·rw [if_neg b2q] at H;have b5G:decide (N3<(J5.length:Int))=false:=dF b2q;clear b2q;obtain ⟨Cz6,E47,H⟩:=bA H;by_cases Ep1:Cz6=true
                 ·subst Ep1;replace H:=fP H;obtain ⟨Cz7,E48,H⟩:=bA H;by_cases b7X:Cz7=true
                  ·subst b7X;replace H:=fP H;exact nO H
                  ·obtain rfl:=bF b7X;replace H:=fN H;obtain ⟨Cz8,E49,H⟩:=bA H;obtain rfl:=sI H;have c0E:=AM1.out;have c0F:=AM2.out;have c0G:=Ak8.out;have c0H:=Ak9.out;have c0I:=Al0.out;have c0J:=Al1.out;have c0K:=Al2.out;have c0L:=Al3.out;have c0M:=Al4.out;have c0N:=Al5.out;have c0O:=AX3.out;have c0P:=Al8.out;have ⟨b7Y,b7Z,b8a,b8b⟩:=bu B5.out;have c0Q:=AW5.out;have c0R:=AW6.out;have c0S:=AW7.out;have c0T:=AW8.out;have c0U:=AW9.out;have c0V:=AX0.out;have c0W:=AX1.out;have c0X:=AX2.out;have c0Y:=AM4.out;have c0Z:=AX4.out;have ⟨b8c,b8d,b8e,b8f,b8g,b8h,b8i,b8j,b8k,b8l⟩:=eD B6.out;go_wp2_with (first | ((with_reducible refine gc_ 16 ?_);refine gl_ (some 156) Tryz.func16 #[.agg #[.slice AE3 P3.length AC7,.slice AC8 R1.length AC9],.agg #[.int .i64 AW1,.int .i64 AW2]] ?_;(with_reducible refine (Y77.calls k3 _ _ P3 _ _ R1 AW1 AW2 true _ ?s1 ?s2 ?s3 ?s4 E47.out).mono ?_);(case s1=>exact de I9.out);(case s2=>exact (Kd.aA I9.out).2.1);(case s3=>exact de K5.out);(case s4=>exact (Kd.aA K5.out).2.1);rintro e c4L ⟨rfl,hb⟩;refine ⟨_,rfl,?_⟩;replace U9:=rB_ U9 hb;replace L8:=rB_ L8 hb;replace L9:=rB_ L9 hb;replace I9:=rB_ I9 hb;replace K5:=rB_ K5 hb;replace N4:=rB_ N4 hb;replace N5:=rB_ N5 hb;replace N6:=rB_ N6 hb;replace N7:=rB_ N7 hb;replace N8:=rB_ N8 hb;replace N9:=rB_ N9 hb;replace O0:=rB_ O0 hb;replace O1:=rB_ O1 hb;replace B5:=kB_ B5 hb;replace B6:=kB_ B6 hb;replace B8:=kB_ B8 hb;replace B7:=kB_ B7 hb;replace C0:=kB_ C0 hb;replace C2:=kB_ C2 hb;replace C6:=kB_ C6 hb;replace HB:=hB_ HB hb;have ⟨b8m,b8n,b8o,b8p⟩:=bu B5.out;have ⟨b8q,b8r,b8s,b8t,b8u,b8v,b8w,b8x,b8y,b8z⟩:=eD B6.out) | (go_at_call 24;(with_reducible refine (Y36.calls k3 _ _ O2 AW1 AW2 false _ ?s1 ?s2 E48.out).mono ?_);(case s1=>exact de L8.out);(case s2=>exact (Kd.aA L8.out).2.1);rintro e c4M ⟨rfl,hb⟩;replace U9:=rB_ U9 hb;replace L8:=rB_ L8 hb;replace L9:=rB_ L9 hb;replace I9:=rB_ I9 hb;replace K5:=rB_ K5 hb;replace N4:=rB_ N4 hb;replace N5:=rB_ N5 hb;replace N6:=rB_ N6 hb;replace N7:=rB_ N7 hb;replace N8:=rB_ N8 hb;replace N9:=rB_ N9 hb;replace O0:=rB_ O0 hb;replace O1:=rB_ O1 hb;replace B5:=kB_ B5 hb;replace B6:=kB_ B6 hb;replace B8:=kB_ B8 hb;replace B7:=kB_ B7 hb;replace C0:=kB_ C0 hb;replace C2:=kB_ C2 hb;replace C6:=kB_ C6 hb;replace HB:=hB_ HB hb;have ⟨b8A,b8B,b8C,b8D,b8E,b8F,b8G,b8H,b8I,b8J⟩:=eD B6.out) | (go_at_call 25;(with_reducible refine (Y84.calls k3 _ _ P3 AW1 AW2 Cz8 _ ?s1 ?s2 E49.out).mono ?_);(case s1=>exact de I9.out);(case s2=>exact (Kd.aA I9.out).2.1);rintro e c4N ⟨rfl,hb⟩;replace U9:=rB_ U9 hb;replace L8:=rB_ L8 hb;replace L9:=rB_ L9 hb;replace I9:=rB_ I9 hb;replace K5:=rB_ K5 hb;replace N4:=rB_ N4 hb;replace N5:=rB_ N5 hb;replace N6:=rB_ N6 hb;replace N7:=rB_ N7 hb;replace N8:=rB_ N8 hb;replace N9:=rB_ N9 hb;replace O0:=rB_ O0 hb;replace O1:=rB_ O1 hb;replace B5:=kB_ B5 hb;replace B6:=kB_ B6 hb;replace B8:=kB_ B8 hb;replace B7:=kB_ B7 hb;replace C0:=kB_ C0 hb;replace C2:=kB_ C2 hb;replace C6:=kB_ C6 hb;replace HB:=hB_ HB hb));go_ret;exact ⟨z5_,z2_ HB.out⟩
                 ·obtain rfl:=bF Ep1;replace H:=fN H;exact nO H
             ·rw [if_neg b1j] at H;have b5E:(AS9 == 0)=false:=beq_eq_false_iff_ne.mpr b1j;have b5F:(AS9 != 0)=true:=bne_iff_ne.mpr b1j;obtain rfl:=sI H;have c1a:=AM2.out;have c1b:=AM1.out;have c1c:=AW5.out;have c1d:=AW6.out;have c1e:=AW7.out;have c1f:=AW8.out;have c1g:=AW9.out;have c1h:=AX0.out;have c1i:=AX1.out;have c1j:=AX2.out;have c1k:=AM4.out;have c1l:=AX4.out;have ⟨b8K,b8L,b8M,b8N,b8O,b8P,b8Q,b8R,b8S,b8T⟩:=eD B6.out;go_wp2;go_ret;exact ⟨z5_,z2_ HB.out⟩
        ·obtain rfl:=bF c28;replace H:=fN H;exact nO H
      ·obtain rfl:=bF c21;replace H:=fN H;exact nO H
     ·exact nN c18 H
    ·obtain rfl:=bF c16;replace H:=fN H;exact nO H
def Y14.Pure:Prop:=∀ (l0:List Int) (l1:List Int),l0.length≤maxLen→l0.length*1≤140737488351232→(∀ x ∈ l0,(Lit.int .u8 x).wf=true)→l1.length≤maxLen→l1.length*1≤140737488351232→(∀ x ∈ l1,(Lit.int .u8 x).wf=true)→∃ k,Y14.f k l0 l1=some true
theorem Y14.walk (P:Y14.Pure) (a0:Option Addr) (B36 cap0:Nat) (z0:List Int) (a1:Option Addr) (B37 B38:Nat) (z1:List Int) (w:World) (w0:(a0=none∧B36=0∧cap0=0∧z0=[])∨∃ x,a0=some x∧B36≤cap0∧cap0≤maxLen∧z0.length=cap0∧(∀ i,i<z0.length→w.cell? (x.add i)=some (.int .u8 (z0.getD i 0)))∧∀ n ∈ z0,(Lit.int .u8 n).wf=true) (y0:B36*1≤140737488351232) (w1:(a1=none∧B37=0∧B38=0∧z1=[])∨∃ x,a1=some x∧B37≤B38∧B38≤maxLen∧z1.length=B38∧(∀ i,i<z1.length→w.cell? (x.add i)=some (.int .u8 (z1.getD i 0)))∧∀ n ∈ z1,(Lit.int .u8 n).wf=true) (y1:B37*1≤140737488351232) :
  Calls Tryz.prog 3 #[.slice a0 B36 cap0,.slice a1 B37 B38] w fun e w'=>e = .returned (.bool true)∧Below w.heap.size w w':=by
 obtain ⟨l0,rfl,hr0,hm0,hw0,hc0⟩:=dn.b2t w0;obtain ⟨l1,rfl,hr1,hm1,hw1,hc1⟩:=dn.b2t w1;obtain ⟨k,h⟩:=P l0 l1 hm0 y0 hw0 hm1 y1 hw1;refine (Y14.calls k _ _ l0 _ _ l1 true w (Kd.a7k (d:=(0:Int)) (h1:=fun _=>rfl) hr0) hc0 (Kd.a7k (d:=(0:Int)) (h1:=fun _=>rfl) hr1) hc1 h).mono ?_;rintro e w' ⟨rfl,hd⟩;exact ⟨rfl,hd⟩
end Go.Proofs.YtdlmdikfgclhoaaGreat.P
namespace Go.Proofs.YtdlmdikfgclhoaaGreat.Q
open Go.RowKit Go.Proofs.YtdlmdikfgclhoaaGreatW.PrintWords Go.Proofs.YtdlmdikfgclhoaaGreatW.PrintMore
theorem w64 {x:Int} (h0 : -9223372036854775808≤x) (h1:x≤9223372036854775807):wrap64 x=x:=by unfold wrap64;omega
theorem fA (n:Int):IntKind.u64.wrap n=n % 18446744073709551616:=by simp [IntKind.wrap,IntKind.bits,IntKind.signed]
theorem ez {α:Type} {c:Prop} [Decidable c] {f g:Nat→Option α} {r:α} (h:c→Ev f r) (h':¬ c→Ev g r):Ev (fun k=>if c then f k else g k) r:=by
 by_cases hc:c
 ·simp only [if_pos hc];exact h hc
 ·simp only [if_neg hc];exact h' hc
theorem aX {α:Type} {c:Prop} [Decidable c] {f g:Nat→Option α} {r:α} (hc:c) (h:Ev f r):Ev (fun k=>if c then f k else g k) r:=by
 simp only [if_pos hc];exact h
theorem bG {α:Type} {c:Prop} [Decidable c] {f g:Nat→Option α} {r:α} (hc:¬ c) (h:Ev g r):Ev (fun k=>if c then f k else g k) r:=by
 simp only [if_neg hc];exact h
theorem evOf {α:Type} {g:Option α} {r:α} (h:g=some r):Ev (fun _=>g) r:=⟨0,fun _ _=>h⟩
theorem bp {α β:Type} {g:Option α} {f:Nat→α→Option β} {a:α} {r:β} (h:g=some a) (k:Ev (fun n=>f n a) r):Ev (fun n=>g.bind (f n)) r:=by
 subst h;exact k
theorem cX {α:Type} {l:List α} {i:Nat} {a:α} {s:List α} (h:l.drop i=a :: s) (d:α):i<l.length∧l.getD i d=a∧l.drop (i+1)=s:=by
 have hl:i<l.length:=by
  have:=congrArg List.length h;simp at this;omega
 rw [List.drop_eq_getElem_cons hl] at h;injection h with h1 h2;exact ⟨hl,by rw [List.getD_eq_getElem?_getD,List.getElem?_eq_getElem hl];exact h1,h2⟩
theorem a9x {α:Type} {l:List α} {i:Nat} (h:l.drop i=[]):l.length≤i:=by
 have:=congrArg List.length h;simp at this;omega
theorem dy {α:Type} {l:List α} {i:Nat} (h:l.drop i=[]) (hi:i≤l.length):l.length=i:=by
 have:=a9x h;omega
theorem a8c {x:Int} (h0:0≤x) (h1:x<18446744073709551616):Go.bits .xor .u64 x 0=x:=by
 obtain ⟨a,rfl⟩:=Int.eq_ofNat_of_zero_le h0;(have ha:a<2 ^ 64:=by omega);have e:(0:Int)=((0:Nat):Int):=rfl;have hw:IntKind.bits .u64=64:=rfl;simp only [bits];rw [e,BitVec.ofInt_natCast,BitVec.ofInt_natCast,BitVec.xor_zero,BitVec.toNat_ofNat,hw,Nat.mod_eq_of_lt ha,fA];omega
theorem a8n {x:Int} (h0:0≤x) (h1:x<18446744073709551616):Go.bits .xor .u64 x 18446744073709551615=18446744073709551615-x:=by
 obtain ⟨a,rfl⟩:=Int.eq_ofNat_of_zero_le h0;(have ha:a<2 ^ 64:=by omega);have e:(18446744073709551615:Int)=((18446744073709551615:Nat):Int):=rfl;have hw:IntKind.bits .u64=64:=rfl;simp only [bits];rw [e,BitVec.ofInt_natCast,BitVec.ofInt_natCast];(have h2:(BitVec.ofNat (IntKind.bits .u64) 18446744073709551615)=BitVec.allOnes _:=by decide);rw [h2,BitVec.xor_allOnes,BitVec.toNat_not,BitVec.toNat_ofNat,hw,Nat.mod_eq_of_lt ha,fA];omega
theorem a5K (n:Int) (h₀:0≤n) (h₁:n<2 ^ 64):IntKind.u64.wrap n=n:=by rw [fA];omega
theorem b1S (n:Int) (h₀:0≤n) (h₁:n<2 ^ 63):IntKind.i64.wrap n=n:=by rw [IntKind.wrap_i64];omega
theorem b1d {x:Int} (h₀:0≤x) (h₁:x<18446744073709551616):Go.bits .and .u64 x 127=x % 128:=bits_mask .u64 64 (by decide) a5K 7 (by decide) x h₀ h₁
theorem b2g {x:Int} (h₀:0≤x) (h₁:x<128):Go.bits .or .u8 x 128=x+128:=by
 obtain ⟨a,rfl⟩:=Int.eq_ofNat_of_zero_le h₀;(have ha:a<2 ^ 8:=by omega);have e1:=(bits_nat .u8 8 (by decide) wraps_u8 a 128 ha (by decide)).2;have e2:=(bits_nat .u8 8 (by decide) wraps_u8 128 a (by decide) ha).2;have e3:Go.bits .or .u8 128 a=128+a:=bits_join .u8 8 (by decide) wraps_u8 7 128 a (by decide) (by decide) (by decide) (by omega) (by omega) (by omega);have e4:((128:Nat):Int)=128:=rfl;rw [e4] at e1 e2;rw [e1,Nat.or_comm,← e2,e3];omega
end Go.Proofs.YtdlmdikfgclhoaaGreat.Q
namespace Go.Proofs.YtdlmdikfgclhoaaGreat.Q
open Go.RowKit Go.Proofs.YtdlmdikfgclhoaaGreat.P Go.Proofs.YtdlmdikfgclhoaaGreatW.PrintWords Go.Proofs.YtdlmdikfgclhoaaGreatW.PrintMore
def dK (b:List Int) (a m z:Int):Prop:=(0≤a∧a≤(b.length:Int))∧(0≤m∧m<18446744073709551616)∧(0≤z∧z≤12)∧b.length≤1048576
theorem b0Q (x y:Int):0≤Go.bits .xor .u64 x y∧Go.bits .xor .u64 x y<18446744073709551616:=by
 (have key:∀ n:Int,0≤IntKind.u64.wrap n∧IntKind.u64.wrap n<18446744073709551616:=fun n=>by rw [fA];omega);exact key _
theorem a8H {q most:Int} (hm:1<most) (hm2:most≤9223372036854775807):IntKind.u64.wrap most=most∧wrap64 (Int.tmod (IntKind.u64.wrap q) most)=(q % 18446744073709551616) % most:=by
 refine ⟨by rw [fA];omega,?_⟩;rw [fA,Int.tmod_eq_emod_of_nonneg (by omega)];have h1:=Int.emod_nonneg (q % 18446744073709551616) (show most≠0 by omega);have h2:=Int.emod_lt_of_pos (q % 18446744073709551616) (show 0<most by omega);exact w64 (by omega) (by omega)
theorem fq {b:List Int} {a m z:Int} (h:dK b a m z) (most:Int) (h2:most≤9223372036854775807) :
  ∃ r a' m',Y2.f b a m z most=some (r,a',m',z)∧0≤r∧(1<most→r<most)∧(most≤1→r=0)∧dK b a' m' z:=by
 obtain ⟨⟨a0,a1⟩,hm,hz,hb⟩:=h;by_cases h1:most≤1
 ·exact ⟨0,a,m,by unfold Y2.f;rw [if_pos h1],by omega,by omega,fun _=>rfl,⟨a0,a1⟩,hm,hz,hb⟩
 ·(have hx:=fun x y=>b0Q x y);(have fin:∀ q:Int,0≤(q % 18446744073709551616) % most∧(q % 18446744073709551616) % most<most:=fun q=>⟨Int.emod_nonneg _ (by omega),Int.emod_lt_of_pos _ (by omega)⟩);unfold Y2.f;rw [if_neg h1];by_cases ha:a<(b.length:Int)
  ·rw [if_pos ha,if_pos a0,if_neg (by rw [(a8H (q:=0) (by omega) h2).1];omega)];refine ⟨_,_,_,by rw [(a8H (q:=0) (by omega) h2).1,(a8H (by omega) h2).2],(fin _).1,fun _=>(fin _).2,by omega,?_,hx _ _,hz,hb⟩;rw [w64 (by omega) (by omega)];omega
  ·rw [if_neg ha,if_neg (by rw [(a8H (q:=0) (by omega) h2).1];omega)];exact ⟨_,_,_,by rw [(a8H (q:=0) (by omega) h2).1,(a8H (by omega) h2).2],(fin _).1,fun _=>(fin _).2,by omega,⟨a0,a1⟩,hx _ _,hz,hb⟩
theorem a1Y {b:List Int} {a m z:Int} (h:dK b a m z) (of:Int) (h2:of≤9223372036854775807):∃ r a' m',Y22.f b a m z of=some (r,a',m',z)∧dK b a' m' z:=by
 obtain ⟨r,a',m',e,_,_,_,g⟩:=fq h of h2;exact ⟨_,a',m',by unfold Y22.f;rw [e];rfl,g⟩
theorem b2a (l:List Int) (hl:l.length≤1048576):∀ (d i:Nat),l.length-i=d→i≤l.length→∀ m:Int,0≤m→m<18446744073709551616 →
  ∃ m' z,Ev (fun k=>Y13.l0 k l (i:Int) l 0 m 0) (l,0,m',z)∧dK l 0 m' z:=by
 have stop:∀ (i:Int) (m:Int),0≤m→m<18446744073709551616→∃ m' z,Ev (fun k=>Y13.j1 k l i false l 0 m 0) (l,0,m',z)∧dK l 0 m' z:=by
  intro i m h0 h1;by_cases h:wrap64 ((l.length:Int) / 20)>12
  ·exact ⟨m,12,Ev.step (f:=fun _=>some (l,0,m,12)) (fun k=>by simp only [Y13.j1];rw [if_neg (by simp),if_pos h]) (Ev.now _),⟨by omega,by omega⟩,⟨h0,h1⟩,by omega,hl⟩
  ·refine ⟨m,wrap64 ((l.length:Int) / 20),Ev.step (f:=fun _=>some (l,0,m,wrap64 ((l.length:Int) / 20))) (fun k=>by simp only [Y13.j1];rw [if_neg (by simp),if_neg h]) (Ev.now _),⟨by omega,by omega⟩,⟨h0,h1⟩,?_,hl⟩;rw [w64 (by omega) (by omega)] at h ⊢;omega
 intro d
 induction d with
 | zero =>
  intro i hd hi m h0 h1;obtain ⟨m',z,e,g⟩:=stop i m h0 h1;refine ⟨m',z,Ev.step (fun k=>?_) e,g⟩;simp only [Y13.l0];rw [if_neg (by omega)]
 | succ d ih =>
  intro i hd hi m h0 h1;by_cases h64:i<64
  ·(have hw:∀ q:Int,0≤IntKind.u64.wrap q∧IntKind.u64.wrap q<18446744073709551616:=fun q=>by rw [fA];omega);obtain ⟨m',z,e,g⟩:=ih (i+1) (by omega) (by omega) (IntKind.u64.wrap ((Go.bits .xor .u64 m (IntKind.u64.wrap (rd l (i:Int))))*1099511628211)) (hw _).1 (hw _).2;refine ⟨m',z,Ev.step (f:=fun k=>Y13.j1 k l (i:Int) true l 0 m 0) (fun k=>?_) (Ev.step (fun k=>?_) e),g⟩
   ·simp only [Y13.l0];rw [if_pos (by omega)];congr 1;simp;omega
   ·simp only [Y13.j1];rw [if_pos trivial,if_pos (by omega),if_pos (by omega),w64 (x:=(i:Int)+1) (by omega) (by omega)];rfl
  ·obtain ⟨m',z,e,g⟩:=stop i m h0 h1;refine ⟨m',z,Ev.step (fun k=>?_) e,g⟩;simp only [Y13.l0];rw [if_pos (by omega)];congr 1;simp;omega
theorem a2Y (l:List Int) (hl:l.length≤1048576):∃ m z,Ev (fun k=>Y13.f k l) (l,0,m,z)∧dK l 0 m z :=
 b2a l hl _ 0 rfl (by omega) _ (by omega) (by omega)
theorem strOfNums_size (l:List Int):(strOfNums l).size=l.length:=by
 rw [← a1P];simp [strOfNums]
theorem a9H {b:List Int} {z c:Int} (hc:c≤1048576):∀ (d:Nat) (i:Int),c-i=(d:Int)→0≤i→∀ (acc:List Int) (a m:Int),(acc.length:Int)=i→dK b a m z →
  ∃ t a' m',Ev (fun k=>Y34.l0 k c acc i b a m z) (t,a',m',z)∧(t.size:Int)=c∧dK b a' m' z
 | 0,i,hd,hi,acc,a,m,ha,h=>by
  refine ⟨strOfNums acc,a,m,Ev.step (f:=fun _=>some (strOfNums acc,a,m,z)) (fun k=>?_) (Ev.now _),by rw [strOfNums_size];omega,h⟩;simp only [Y34.l0];rw [if_neg (by omega)]
 | d+1,i,hd,hi,acc,a,m,ha,h=>by
  obtain ⟨r,a1,m1,e,_,_,_,g⟩:=fq h 256 (by omega);obtain ⟨t,a2,m2,e2,h2,g2⟩:=a9H hc d (i+1) (by omega) (by omega) (acc ++ [r % 256]) a1 m1 (by simp;omega) g;refine ⟨t,a2,m2,Ev.step (fun k=>?_) e2,h2,g2⟩;simp only [Y34.l0,e,Option.bind_some];rw [if_pos (by omega),if_pos (by omega),w64 (x:=i+1) (by omega) (by omega)]
theorem b2u {b:List Int} {a m z c:Int} (h:dK b a m z) (h0:0≤c) (h1:c≤1048576):∃ t a' m',Ev (fun k=>Y34.f k b a m z c) (t,a',m',z)∧(t.size:Int)=c∧dK b a' m' z :=
 a9H h1 c.toNat 0 (by omega) (by omega) [] a m rfl h
theorem a9S (b:ByteArray):∀ (n i:Nat) (r:List UInt8),b.size-i=n→ByteArray.toList.loop b i r=r.reverse ++ b.data.toList.drop i:=by
 intro n
 induction n with
 | zero =>
  intro i r h;unfold ByteArray.toList.loop;(have hs:b.data.toList.length=b.size:=by rw [Array.length_toList];rfl);rw [if_neg (by omega),List.drop_of_length_le (by omega),List.append_nil]
 | succ n ih =>
  intro i r h;unfold ByteArray.toList.loop;(have hs:b.data.toList.length=b.size:=by rw [Array.length_toList];rfl);rw [if_pos (by omega),ih (i+1) _ (by omega),List.drop_eq_getElem_cons (i:=i) (by omega)]
  have:b.get! i=b.data.toList[i]'(by omega):=by
   (have hi:i<b.data.size:=by rw [← Array.length_toList];omega);show b.data[i]! = _;rw [getElem!_pos b.data i hi];simp
  simp [this]
theorem toList_data (b:ByteArray):b.toList=b.data.toList:=by
 unfold ByteArray.toList;rw [a9S b _ 0 [] rfl];simp
theorem toList_inj {a b:ByteArray} (h:a.toList=b.toList):a=b:=by
 rw [toList_data,toList_data] at h;obtain ⟨a⟩:=a;obtain ⟨b⟩:=b;simp only [ByteArray.mk.injEq];exact Array.toList_inj.1 h
theorem toList_nil {s:ByteArray} (h:s.toList=[]):s.size=0:=by
 have h5:s.data.toList.length=s.size:=(by rw [Array.length_toList];rfl);rw [← toList_data,h] at h5;simpa using h5.symm
def cM (n low high:Int):Bool:=decide (low≤n) && decide (n≤high)
def isNode (n:Int):Bool:=cM n 1 5
def eM (a b:Int):Bool:=isNode a && cM b 1 1000000
theorem a5g (n a b:Int):Y91.f n a b=some (cM n a b):=by
 unfold Y91.f cM;split
 ·rename_i h;simp [show a≤n from h]
 ·rename_i h;simp [show ¬ a≤n from h]
theorem a7E (n:Int):Y94.f n=some (isNode n):=by simp [Y94.f,a5g,isNode]
theorem a2N (a b:Int):Y81.f a b=some (eM a b):=by
 simp only [Y81.f,a7E,a5g,eM,Option.bind_some];cases isNode a <;> simp
theorem a2g (n a b:Int):Y66.f n a b=some (cM n a b):=by
 unfold Y66.f cM;split
 ·rename_i h;simp [show a≤n from h]
 ·rename_i h;simp [show ¬ a≤n from h]
theorem a8J (n:Int):Y95.f n=some (isNode n):=by simp [Y95.f,a2g,isNode]
theorem a4b (a b:Int):Y72.f a b=some (eM a b):=by
 simp only [Y72.f,a8J,a2g,eM,Option.bind_some];cases isNode a <;> simp
theorem a7m (n:Int):isNode n=true ↔ 1≤n∧n≤5:=by simp [isNode,cM]
theorem a1B (a b:Int):eM a b=true ↔ (1≤a∧a≤5)∧1≤b∧b≤1000000:=by simp [eM,isNode,cM]
abbrev Mark:=S30
def dQ:Int→List Mark→Bool
 | _,[]=>true
 | p,m :: r=>eM m.f0 m.f1 && (decide (p<m.f0) && dQ m.f0 r)
def bX (v:List Mark):Bool:=dQ 0 v
theorem a4C:∀ (s:List Mark) (p:Int),p≤5→dQ p s=true→(s.length:Int)≤5-p
 | [],p,h,_=>by simp;omega
 | m :: r,p,h,ho=>by
  simp only [dQ,Bool.and_eq_true,decide_eq_true_eq,a1B] at ho;have:=a4C r m.f0 ho.1.1.2 ho.2.2;simp;omega
theorem a2F {v:List Mark} (h:bX v=true):v.length≤5:=by
 have:=a4C v 0 (by omega) h;omega
def dU (l:List Mark) (i:Nat):Int:=if i=0 then 0 else (l.getD (i-1) z30).f0
theorem a6f {l:List Mark} {i:Nat} {m:Mark} (h:l.getD i z30=m):dU l (i+1)=m.f0:=by
 simp only [dU,Nat.add_sub_cancel,h];simp
theorem a2w (l:List Mark) (hl:l.length≤4611686018427387904):∀ (s:List Mark) (i:Nat),l.drop i=s→i≤l.length→0≤dU l i →
  Ev (fun k=>Y24.l0 k l l (l.length:Int) (i:Int)) (dQ (dU l i) s)
 | [],i,h,hi,hp=>by
  have:=dy h hi;refine Ev.step (f:=fun _=>some true) (fun k=>?_) (Ev.now _);simp only [Y24.l0];rw [if_neg (by omega)]
 | m :: s,i,h,hi,hp=>by
  obtain ⟨h1,h2,h3⟩:=cX h z30;(have hr:aG l (i:Int)=m:=by simpa [aG] using h2);(have ih:=fun hq=>a2w l hl s (i+1) h3 (by omega) hq);rw [a6f h2] at ih;by_cases hd:eM m.f0 m.f1=true
  ·have hd':=(a1B _ _).1 hd;by_cases hlt:dU l i<m.f0
   ·have ih:=ih (by omega);refine Ev.step (fun k=>?_) (show Ev _ (dQ (dU l i) (m :: s)) from by simp only [dQ,hd,hlt,decide_true,Bool.true_and];exact ih);simp only [Y24.l0,hr,a4b,Option.bind_some];rw [if_pos (by omega),if_pos (by omega),if_pos (by omega),if_pos hd,w64 (x:=(i:Int)+1) (by omega) (by omega)];by_cases hi0:i=0
    ·subst hi0;rw [if_neg (by omega)];rfl
    ·have hq:aG l ((i:Int)-1)=l.getD (i-1) z30:=by
      simp only [aG];congr 1;omega
     rw [w64 (x:=(i:Int)-1) (by omega) (by omega),if_pos (by omega),if_pos (by omega),if_pos (by omega),hq,if_neg (by simp only [dU,if_neg hi0] at hlt;omega)];rfl
   ·refine Ev.step (f:=fun _=>some false) (fun k=>?_) (show Ev _ (dQ (dU l i) (m :: s)) from by simp only [dQ,hd,hlt,decide_false,Bool.false_and,Bool.and_false];exact Ev.now _)
    have hi0:i≠0:=by
     intro e;subst e;simp [dU] at hlt;omega
    have hq:aG l ((i:Int)-1)=l.getD (i-1) z30:=by
     simp only [aG];congr 1;omega
    simp only [Y24.l0,hr,a4b,Option.bind_some]
    rw [if_pos (by omega),if_pos (by omega),if_pos (by omega),if_pos hd,w64 (x:=(i:Int)-1) (by omega) (by omega),if_pos (by omega),if_pos (by omega),if_pos (by omega),hq,
     if_pos (by simp only [dU,if_neg hi0] at hlt;omega)]
  ·refine Ev.step (f:=fun _=>some false) (fun k=>?_) (show Ev _ (dQ (dU l i) (m :: s)) from by simp only [dQ,Bool.eq_false_iff.mpr hd,Bool.false_and];exact Ev.now _);simp only [Y24.l0,hr,a4b,Option.bind_some];rw [if_pos (by omega),if_pos (by omega),if_pos (by omega),if_neg hd]
theorem a0T (l:List Mark) (hl:l.length≤4611686018427387904):Ev (fun k=>Y24.f k l) (bX l) :=
 a2w l hl l 0 rfl (by omega) (by simp [dU])
theorem a5i (l:List Mark) (hl:l.length≤4611686018427387904):Ev (fun k=>Y69.f k l) (bX l):=by
 unfold Y69.f Y63.f;refine bp rfl ?_;by_cases h:(l.length:Int)>400
 ·have:bX l=false:=by
   rw [Bool.eq_false_iff];intro hs;have:=a2F hs;omega
  rw [this];exact aX (by simpa using h) (Ev.now _)
 ·exact bG (by simpa using h) (Ev.bind (a0T l hl) (Ev.now _))
theorem a2A (l:List Mark) (hl:l.length≤4611686018427387904):∀ (s:List Mark) (i:Nat),l.drop i=s→i≤l.length→(i:Int)≤dU l i→dU l i≤5 →
  Ev (fun k=>Y11.l0 k l (i:Int)) (dQ (dU l i) s)
 | [],i,h,hi,hp,hp5=>by
  have:=dy h hi;refine Ev.step (f:=fun k=>Y11.j1 k l (i:Int) false) (fun k=>?_) (Ev.step (f:=fun _=>some true) (fun k=>?_) (Ev.now _))
  ·simp only [Y11.l0];rw [if_neg (by omega)]
  ·simp only [Y11.j1];rw [if_neg (by simp)];congr 1;simp;omega
 | m :: s,i,h,hi,hp,hp5=>by
  obtain ⟨h1,h2,h3⟩:=cX h z30;(have hr:aG l (i:Int)=m:=by simpa [aG] using h2);(have ih:=fun hq=>a2A l hl s (i+1) h3 (by omega) hq);rw [a6f h2] at ih;have hj:decide ((i:Int)≤5)=true:=by simp;omega
  have hl0:∀ k,Y11.l0 (k+1) l (i:Int)=Y11.j1 k l (i:Int) true:=fun k=>by
   simp only [Y11.l0];rw [if_pos (by omega),hj]
  by_cases hd:eM m.f0 m.f1=true
  ·have hd':=(a1B _ _).1 hd;by_cases hlt:dU l i<m.f0
   ·have ih:=ih (by omega) (by omega);refine Ev.step hl0 (Ev.step (fun k=>?_) (show Ev _ (dQ (dU l i) (m :: s)) from by simp only [dQ,hd,hlt,decide_true,Bool.true_and];exact ih));simp only [Y11.j1,hr,a2N,Option.bind_some];rw [if_pos trivial,if_pos (by omega),if_pos (by omega),if_pos hd,w64 (x:=(i:Int)+1) (by omega) (by omega)];by_cases hi0:i=0
    ·subst hi0;rw [if_neg (by omega)];rfl
    ·have hq:aG l ((i:Int)-1)=l.getD (i-1) z30:=by
      simp only [aG];congr 1;omega
     rw [w64 (x:=(i:Int)-1) (by omega) (by omega),if_pos (by omega),if_pos (by omega),if_pos (by omega),hq,if_neg (by simp only [dU,if_neg hi0] at hlt;omega)];rfl
   ·refine Ev.step hl0 (Ev.step (f:=fun _=>some false) (fun k=>?_) (show Ev _ (dQ (dU l i) (m :: s)) from by simp only [dQ,hd,hlt,decide_false,Bool.false_and,Bool.and_false];exact Ev.now _))
    have hi0:i≠0:=by
     intro e;subst e;simp [dU] at hlt;omega
    have hq:aG l ((i:Int)-1)=l.getD (i-1) z30:=by
     simp only [aG];congr 1;omega
    simp only [Y11.j1,hr,a2N,Option.bind_some]
    rw [if_pos trivial,if_pos (by omega),if_pos (by omega),if_pos hd,w64 (x:=(i:Int)-1) (by omega) (by omega),if_pos (by omega),if_pos (by omega),if_pos (by omega),hq,
     if_pos (by simp only [dU,if_neg hi0] at hlt;omega)]
  ·refine Ev.step hl0 (Ev.step (f:=fun _=>some false) (fun k=>?_) (show Ev _ (dQ (dU l i) (m :: s)) from by simp only [dQ,Bool.eq_false_iff.mpr hd,Bool.false_and];exact Ev.now _));simp only [Y11.j1,hr,a2N,Option.bind_some];rw [if_pos trivial,if_pos (by omega),if_pos (by omega),if_neg hd]
theorem a0S (l:List Mark) (hl:l.length≤4611686018427387904):Ev (fun k=>Y11.f k l) (bX l) :=
 a2A l hl l 0 rfl (by omega) (by simp [dU]) (by simp [dU])
def zig (n:Int):Int:=if n<0 then -2*n-1 else 2*n
theorem a5Z {n:Int} (h0 : -9223372036854775808≤n) (h1:n≤9223372036854775807):0≤zig n∧zig n<18446744073709551616:=by
 unfold zig;split <;> omega
def cL:Nat→Int→List Int
 | 0,u=>[u % 256]
 | f+1,u=>if u≥128 then (u % 128+128) :: cL f (u / 128) else [u % 256]
def bI (n:Int):ByteArray:=strOfNums (cL 9 (zig n))
theorem b4i {n:Int} (h0 : -9223372036854775808≤n) (h1:n≤9223372036854775807):Y97.f n=some (zig n):=by
 unfold Y97.f zig;split
 ·rw [w64 (x:=n+1) (by omega) (by omega),w64 (by omega) (by omega)];simp only [fA];congr 1;omega
 ·simp only [fA];congr 1;omega
theorem b5g {n:Int} (h0 : -9223372036854775808≤n) (h1:n≤9223372036854775807) :
  Go.bits .xor .u64 (IntKind.u64.wrap ((IntKind.u64.wrap n)*2)) (IntKind.u64.wrap (n / 9223372036854775808))=zig n:=by
 unfold zig;simp only [fA];split
 ·(have e:n / 9223372036854775808 = -1:=by omega);rw [e,show ((-1:Int) % 18446744073709551616)=18446744073709551615 from by decide,a8n (by omega) (by omega)];omega
 ·(have e:n / 9223372036854775808=0:=by omega);rw [e,show ((0:Int) % 18446744073709551616)=0 from by decide,a8c (by omega) (by omega)];omega
theorem a4L:∀ f u,(cL f u).length≤f+1
 | 0,u=>by simp [cL]
 | f+1,u=>by
  unfold cL;split
  ·have:=a4L f (u / 128);simp;omega
  ·simp
theorem a3G:∀ (f:Nat) (u:Int) (acc:List Int),0≤u→u<128 ^ (f+1)→u<18446744073709551616→acc.length+f+1<140737488355328 →
  Ev (fun k=>Y31.l0 k u acc) (strOfNums (acc ++ cL f u))
 | 0,u,acc,h0,h1,h2,h3=>by
  refine Ev.step (f:=fun _=>some (strOfNums (acc ++ cL 0 u))) (fun k=>?_) (Ev.now _);simp only [Y31.l0];rw [if_neg (by omega),if_pos (by omega)];rfl
 | f+1,u,acc,h0,h1,h2,h3=>by
  by_cases h:u≥128
  ·have ih:=a3G f (u / 128) (acc ++ [u % 128+128]) (by omega) (by rw [Int.pow_succ] at h1;omega) (by omega) (by simp;omega);(have hv:cL (f+1) u=[u % 128+128] ++ cL f (u / 128):=by simp [cL,h]);rw [hv,← List.append_assoc];refine Ev.step (fun k=>?_) ih;simp only [Y31.l0]
   rw [if_pos h,if_pos (by omega),Int.tdiv_eq_ediv_of_nonneg h0,Int.tmod_eq_emod_of_nonneg h0,fA,fA,show (u / 128) % 18446744073709551616=u / 128 from by omega,
    show (u % 128+128) % 18446744073709551616 % 256=u % 128+128 from by omega]
  ·refine Ev.step (f:=fun _=>some (strOfNums (acc ++ cL (f+1) u))) (fun k=>?_) (Ev.now _);simp only [Y31.l0];rw [if_neg h,if_pos (by omega)];simp [cL,h]
theorem a3U:∀ (f:Nat) (u:Int) (acc:List Int),0≤u→u<128 ^ (f+1)→u<18446744073709551616→acc.length+f+1<140737488355328 →
  Ev (fun k=>Y30.l0 k u acc) (strOfNums (acc ++ cL f u))
 | 0,u,acc,h0,h1,h2,h3=>by
  refine Ev.step (f:=fun _=>some (strOfNums (acc ++ cL 0 u))) (fun k=>?_) (Ev.now _);simp only [Y30.l0];rw [if_neg (by omega),if_pos (by omega)];rfl
 | f+1,u,acc,h0,h1,h2,h3=>by
  by_cases h:u≥128
  ·have ih:=a3U f (u / 128) (acc ++ [u % 128+128]) (by omega) (by rw [Int.pow_succ] at h1;omega) (by omega) (by simp;omega);(have hv:cL (f+1) u=[u % 128+128] ++ cL f (u / 128):=by simp [cL,h]);rw [hv,← List.append_assoc];refine Ev.step (fun k=>?_) ih;simp only [Y30.l0];rw [if_pos h,if_pos (by omega),b1d h0 h2,show (u % 128) % 256=u % 128 from by omega,b2g (by omega) (by omega)]
  ·refine Ev.step (f:=fun _=>some (strOfNums (acc ++ cL (f+1) u))) (fun k=>?_) (Ev.now _);simp only [Y30.l0];rw [if_neg h,if_pos (by omega)];simp [cL,h]
theorem a0p {n:Int} (h0 : -9223372036854775808≤n) (h1:n≤9223372036854775807):Ev (fun k=>Y31.f k n) (bI n):=by
 have hz:=a5Z h0 h1;unfold Y31.f;rw [b4i h0 h1];simp only [Option.bind_some];have:=a3G 9 (zig n) [] hz.1 (by omega) hz.2 (by simp);simpa [bI] using this
theorem a0o {n:Int} (h0 : -9223372036854775808≤n) (h1:n≤9223372036854775807):Ev (fun k=>Y30.f k n) (bI n):=by
 have hz:=a5Z h0 h1;unfold Y30.f;rw [b5g h0 h1];have:=a3U 9 (zig n) [] hz.1 (by omega) hz.2 (by simp);simpa [bI] using this
def a0P:List ByteArray→Int→Int
 | [],_ => -1
 | a :: s,i=>if 8000<a.size then i else a0P s (i+1)
theorem a4w:∀ (s:List ByteArray) (i:Int),0≤i→decide (a0P s i≥0)=s.any fun a=>decide (8000<a.size)
 | [],i,h=>by simp [a0P]
 | a :: s,i,h=>by
  have ih:=a4w s (i+1) (by omega);by_cases ha:8000<a.size
  ·simp [a0P,ha,h]
  ·rw [a0P,if_neg ha,ih,List.any_cons];simp [ha]
theorem a8x (l:List ByteArray) (hl:l.length≤4611686018427387904):∀ (s:List ByteArray) (i:Nat),l.drop i=s→i≤l.length →
  Ev (fun k=>Y6.l0 k l (l.length:Int) (i:Int)) (a0P s i)
 | [],i,h,hi=>by
  have:=dy h hi;refine Ev.step (f:=fun _=>some (-1)) (fun k=>?_) (Ev.now _);simp only [Y6.l0];rw [if_neg (by omega)]
 | a :: s,i,h,hi=>by
  obtain ⟨h1,h2,h3⟩:=cX h ByteArray.empty;have ih:=a8x l hl s (i+1) h3 (by omega);by_cases ha:8000<a.size
  ·refine Ev.step (f:=fun _=>some (a0P (a :: s) i)) (fun k=>?_) (Ev.now _);simp only [Y6.l0,Y98.f,a3J,Int.toNat_natCast,h2];rw [if_pos (by omega),if_pos (by omega),if_pos (by omega)];simp [a0P,ha];omega
  ·refine Ev.step (fun k=>?_) (show Ev _ (a0P (a :: s) i) from by simp only [a0P,if_neg ha];exact ih);simp only [Y6.l0,Y98.f,a3J,Int.toNat_natCast,h2];rw [if_pos (by omega),if_pos (by omega),if_pos (by omega),w64 (by omega) (by omega)];(have:¬ ((a.size:Int)>8000):=by omega);simp [this]
theorem b1X (l:List ByteArray) (hl:l.length≤4611686018427387904):Ev (fun k=>Y52.f k l) (l.any fun a=>decide (8000<a.size)):=by
 unfold Y52.f Y26.f Y6.f;have h:=a8x l hl l 0 rfl (by omega);refine Ev.bind (Ev.bind h (Ev.now _)) ?_;have e:=a4w l 0 (by omega);rw [show ((0:Nat):Int)=0 from rfl,e];exact Ev.now _
theorem a3g (a:ByteArray):Ev (fun k=>Y52.f k ([a]:List ByteArray)) (decide (8000<a.size)):=by
 have:=b1X [a] (by simp);simpa using this
theorem bW (n:Int):(bI n).size≤10:=by
 have h:=a4L 9 (zig n);unfold bI;rw [← a1P];simp only [strOfNums];simpa using h
def dL (t:ByteArray):ByteArray:=if 8000<t.size then ⟨#[]⟩ else bI (t.size:Int) ++ t
theorem a6L (t:ByteArray):Ev (fun k=>Y83.f k t) (dL t):=by
 unfold Y83.f dL;by_cases h:8000<t.size
 ·rw [if_pos h];exact aX (by omega) (Ev.now _)
 ·rw [if_neg h];refine bG (by omega) (Ev.bind (a0p (by omega) (by omega)) ?_);have:=bW (t.size:Int);exact aX (by omega) (Ev.now _)
theorem a6O (t:ByteArray):Ev (fun k=>Y82.f k t) (dL t):=by
 unfold Y82.f dL;refine Ev.bind (a3g t) ?_;by_cases h:8000<t.size
 ·rw [if_pos h];exact aX (by simpa using h) (Ev.now _)
 ·rw [if_neg h];refine bG (by simpa using h) (bp rfl (Ev.bind (a0o (by omega) (by omega)) ?_));have:=bW (t.size:Int);exact aX (by omega) (Ev.now _)
def bz:List Mark→Int→Int
 | [],_=>0
 | m :: r,n=>if m.f0=n then m.f1 else bz r n
theorem b0b (l:List Mark) (n:Int) (hl:l.length≤4611686018427387904):∀ (s:List Mark) (i:Nat),l.drop i=s→i≤l.length→Ev (fun k=>Y45.l0 k l n (i:Int)) (bz s n)
 | [],i,h,hi=>by
  have:=dy h hi;refine Ev.step (f:=fun _=>some 0) (fun k=>?_) (Ev.now _);simp only [Y45.l0];rw [if_neg (by omega)]
 | m :: s,i,h,hi=>by
  obtain ⟨h1,h2,h3⟩:=cX h z30;(have hr:aG l (i:Int)=m:=by simpa [aG] using h2);refine Ev.step (f:=fun k=>if m.f0=n then some m.f1 else Y45.l0 k l n ((i+1:Nat):Int)) (fun k=>?_) ?_
  ·simp only [Y45.l0,hr];rw [if_pos (by omega),if_pos (by omega),w64 (by omega) (by omega)];rfl
  ·simp only [bz];refine ez (fun h=>?_) (fun h=>?_)
   ·rw [if_pos h];exact Ev.now _
   ·rw [if_neg h];exact b0b l n hl s (i+1) h3 (by omega)
theorem a5y (l:List Mark) (n:Int) (hl:l.length≤4611686018427387904):Ev (fun k=>Y45.f k l n) (bz l n):=b0b l n hl l 0 rfl (by omega)
theorem a8A (l:List Mark) (n:Int) (hl:l.length≤4611686018427387904):∀ (s:List Mark) (i:Nat),l.drop i=s→i≤l.length→Ev (fun k=>Y41.l0 k n l (l.length:Int) (i:Int)) (bz s n)
 | [],i,h,hi=>by
  have:=dy h hi;refine Ev.step (f:=fun _=>some 0) (fun k=>?_) (Ev.now _);simp only [Y41.l0];rw [if_neg (by omega)]
 | m :: s,i,h,hi=>by
  obtain ⟨h1,h2,h3⟩:=cX h z30;(have hr:aG l (i:Int)=m:=by simpa [aG] using h2);refine Ev.step (f:=fun k=>if m.f0=n then some m.f1 else Y41.l0 k n l (l.length:Int) ((i+1:Nat):Int)) (fun k=>?_) ?_
  ·simp only [Y41.l0,hr];rw [if_pos (by omega),if_pos (by omega),if_pos (by omega),w64 (by omega) (by omega)];rfl
  ·simp only [bz];refine ez (fun h=>?_) (fun h=>?_)
   ·rw [if_pos h];exact Ev.now _
   ·rw [if_neg h];exact a8A l n hl s (i+1) h3 (by omega)
theorem a4m (l:List Mark) (n:Int) (hl:l.length≤4611686018427387904):Ev (fun k=>Y41.f k l n) (bz l n):=a8A l n hl l 0 rfl (by omega)
def dP (l:List Mark) (a b:Int):Bool:=decide (b≤bz l a)
def cD (l:List Mark) (a b:Int):Bool:=bX l && (eM a b && dP l a b)
theorem a4S (l:List Mark) (a b:Int) (hl:l.length≤4611686018427387904):Ev (fun k=>Y59.f k l a b) (dP l a b):=Ev.bind (a4m l a hl) (Ev.now _)
theorem a0x (l:List Mark) (a b:Int) (hl:l.length≤4611686018427387904):Ev (fun k=>Y36.f k l a b) (cD l a b):=by
 unfold Y36.f cD;refine Ev.bind (a0S l hl) ?_
 cases bX l with
 | false=>exact bG (by simp) (Ev.now _)
 | true =>
  refine aX rfl (bp (a2N a b) ?_)
  cases eM a b with
  | false=>exact bG (by simp) (Ev.now _)
  | true=>exact aX rfl (Ev.bind (a5y l a hl) (Ev.now _))
theorem a6D (l:List Mark) (a b:Int) (hl:l.length≤4611686018427387904):Ev (fun k=>Y84.f k l a b) (cD l a b):=by
 unfold Y84.f cD;refine Ev.bind (a5i l hl) ?_
 cases bX l with
 | false=>exact bG (by simp) (Ev.now _)
 | true =>
  refine aX rfl (bp (a4b a b) ?_)
  cases eM a b with
  | false=>exact bG (by simp) (Ev.now _)
  | true=>exact aX rfl (Ev.bind (a4S l a b hl) (Ev.now _))
def a0w (a b:List Mark):Nat→Int→List Mark
 | 0,_=>[]
 | f+1,n=>(if mx (bz a n) (bz b n)>0 then [⟨n,mx (bz a n) (bz b n)⟩] else []) ++ a0w a b f (n+1)
def bx (a b:List Mark):List Mark:=a0w a b 5 1
theorem b1G (a b:Int):b1Q.f a b=some (mx a b):=by
 unfold b1Q.f mx;by_cases h:a>b
 ·rw [if_pos h,if_neg (by omega)]
 ·rw [if_neg h];by_cases h2:a<b
  ·rw [if_pos h2]
  ·rw [if_neg h2,show a=b from by omega]
theorem a5a (a b:List Mark) (ha:a.length≤4611686018427387904) (hb:b.length≤4611686018427387904):∀ (f:Nat) (n:Int),n+f=6→f≤5→∀ acc:List Mark,acc.length+f≤5→Ev (fun k=>Y32.l0 k a b acc n) (acc ++ a0w a b f n)
 | 0,n,hn,hf,acc,hacc=>by
  refine Ev.step (f:=fun _=>some acc) (fun k=>?_) (by simp only [a0w,List.append_nil];exact Ev.now _);simp only [Y32.l0];rw [if_neg (by omega)]
 | f+1,n,hn,hf,acc,hacc=>by
  refine Ev.step (fun k=>by simp only [Y32.l0];rw [if_pos (show n≤5 by omega),w64 (x:=n+1) (by omega) (by omega)]) (Ev.bind (a5y a n ha) (Ev.bind (a5y b n hb) (bp (b1G _ _) ?_)));simp only [a0w];refine ez (fun h=>?_) (fun h=>?_)
  ·rw [if_pos h,← List.append_assoc];exact aX (by omega) (a5a a b ha hb f (n+1) (by omega) (by omega) _ (by simp;omega))
  ·rw [if_neg h,List.nil_append];exact a5a a b ha hb f (n+1) (by omega) (by omega) _ (by omega)
theorem a3k (a b:List Mark) (ha:a.length≤4611686018427387904) (hb:b.length≤4611686018427387904):Ev (fun k=>Y32.f k a b) (bx a b):=by
 have:=a5a a b ha hb 5 1 (by omega) (by omega) [] (by simp);simpa [Y32.f,bx] using this
theorem a3X (a b:List Mark) (ha:a.length≤4611686018427387904) (hb:b.length≤4611686018427387904):∀ (f:Nat) (n:Int),n+f=6→f≤5→∀ acc:List Mark,acc.length+f≤5→Ev (fun k=>Y37.l0 k a b acc n) (acc ++ a0w a b f n)
 | 0,n,hn,hf,acc,hacc=>by
  refine Ev.step (f:=fun _=>some acc) (fun k=>?_) (by simp only [a0w,List.append_nil];exact Ev.now _);simp only [Y37.l0];rw [if_neg (by omega)]
 | f+1,n,hn,hf,acc,hacc=>by
  refine Ev.step (fun k=>by simp only [Y37.l0];rw [if_pos (show n≤5 by omega),w64 (x:=n+1) (by omega) (by omega)]) (Ev.bind (a4m a n ha) (Ev.bind (a4m b n hb) ?_));simp only [a0w];refine ez (fun h=>?_) (fun h=>?_)
  ·rw [if_pos h,← List.append_assoc];exact aX (by omega) (a3X a b ha hb f (n+1) (by omega) (by omega) _ (by simp;omega))
  ·rw [if_neg h,List.nil_append];exact a3X a b ha hb f (n+1) (by omega) (by omega) _ (by omega)
theorem a6o (a b:List Mark) (ha:a.length≤4611686018427387904) (hb:b.length≤4611686018427387904):Ev (fun k=>Y37.f k a b) (bx a b):=by
 have:=a3X a b ha hb 5 1 (by omega) (by omega) [] (by simp);simpa [Y37.f,bx] using this
theorem a1S (a b:List Mark):∀ (f:Nat) (n:Int),(a0w a b f n).length≤f
 | 0,n=>by simp [a0w]
 | f+1,n=>by
  have:=a1S a b f (n+1);simp only [a0w];split <;> simp <;> omega
theorem a0y (a b:List Mark):(bx a b).length≤5:=a1S a b 5 1
theorem a7z:∀ (s:List Mark) (p:Int),dQ p s=true→∀ m ∈ s,eM m.f0 m.f1=true∧p<m.f0
 | [],_,_,m,hm=>by simp at hm
 | x :: r,p,h,m,hm=>by
  simp only [dQ,Bool.and_eq_true,decide_eq_true_eq] at h;rcases List.mem_cons.1 hm with rfl | hm
  ·exact ⟨h.1,h.2.1⟩
  ·have:=a7z r x.f0 h.2.2 m hm;exact ⟨this.1,by omega⟩
def Small (v:List Mark):Prop:=∀ m ∈ v,(0≤m.f0∧m.f0≤4294967295)∧0≤m.f1∧m.f1≤4294967295
theorem a0I {v:List Mark} (h:bX v=true):Small v:=fun m hm=>by
 have:=(a1B _ _).1 (a7z v 0 h m hm).1
 omega
def a0N (m:Mark):ByteArray:=bI m.f0 ++ bI m.f1
def a0X (v:List Mark):ByteArray:=v.foldl (fun t m=>t ++ a0N m) (bI (v.length:Int))
theorem a6x (l:List Mark) (hl:l.length≤1048576) (hsm:Small l):∀ (s:List Mark) (i:Nat),l.drop i=s→i≤l.length→∀ t:ByteArray,t.size≤10+20*i→Ev (fun k=>Y42.l0 k l t (i:Int)) (s.foldl (fun t m=>t ++ a0N m) t)
 | [],i,h,hi,t,ht=>by
  have:=dy h hi;refine Ev.step (f:=fun _=>some t) (fun k=>?_) (Ev.now _);simp only [Y42.l0];rw [if_neg (by omega)]
 | m :: s,i,h,hi,t,ht=>by
  obtain ⟨h1,h2,h3⟩:=cX h z30;(have hr:aG l (i:Int)=m:=by simpa [aG] using h2);have hm:m ∈ l:=List.mem_of_mem_drop (by rw [h];exact List.mem_cons_self);have hb:=hsm m hm;have p0:=bW m.f0;have p1:=bW m.f1;refine Ev.step (fun k=>by simp only [Y42.l0,hr];rw [if_pos (show (i:Int)<l.length by omega),if_pos (show (0:Int)≤i by omega),w64 (x:=(i:Int)+1) (by omega) (by omega)]) ?_;refine Ev.bind (a0p (by omega) (by omega)) (aX (by omega) (Ev.bind (a0p (by omega) (by omega)) (aX (by omega) ?_)));rw [ByteArray.append_assoc];exact a6x l hl hsm s (i+1) h3 (by omega) _ (by simp only [ByteArray.size_append];omega)
theorem a9I (l:List Mark) (hl:l.length≤1048576) (hsm:Small l):Ev (fun k=>Y42.f k l) (a0X l):=by
 unfold Y42.f;exact Ev.bind (a0p (by omega) (by omega)) (a6x l hl hsm l 0 rfl (by omega) _ (by have:=bW (l.length:Int);omega))
theorem a5q (l:List Mark) (hl:l.length≤1048576) (hsm:Small l):∀ (s:List Mark) (i:Nat),l.drop i=s→i≤l.length→∀ t:ByteArray,t.size≤10+20*i→Ev (fun k=>Y39.l0 k t l (l.length:Int) (i:Int)) (s.foldl (fun t m=>t ++ a0N m) t)
 | [],i,h,hi,t,ht=>by
  have:=dy h hi;refine Ev.step (f:=fun _=>some t) (fun k=>?_) (Ev.now _);simp only [Y39.l0];rw [if_neg (by omega)]
 | m :: s,i,h,hi,t,ht=>by
  obtain ⟨h1,h2,h3⟩:=cX h z30;(have hr:aG l (i:Int)=m:=by simpa [aG] using h2);have hm:m ∈ l:=List.mem_of_mem_drop (by rw [h];exact List.mem_cons_self);have hb:=hsm m hm;have p0:=bW m.f0;have p1:=bW m.f1;refine Ev.step (fun k=>by simp only [Y39.l0,hr];rw [if_pos (show (i:Int)<l.length by omega),if_pos (show (0:Int)≤i by omega),if_pos (show (i:Int)<l.length by omega),w64 (x:=(i:Int)+1) (by omega) (by omega)]) ?_;refine Ev.bind (a0o (by omega) (by omega)) (Ev.bind (a0o (by omega) (by omega)) (aX (by omega) (aX (by omega) ?_)));exact a5q l hl hsm s (i+1) h3 (by omega) _ (by simp only [ByteArray.size_append];omega)
theorem a8W (l:List Mark) (hl:l.length≤1048576) (hsm:Small l):Ev (fun k=>Y39.f k l) (a0X l):=by
 unfold Y39.f;exact Ev.bind (a0o (by omega) (by omega)) (a5q l hl hsm l 0 rfl (by omega) _ (by have:=bW (l.length:Int);omega))
def a4k (v:List Mark) (a b:Int):List Mark × Int :=
 if (v.length:Int)>400 then ([],2) else if bX v=true then (if eM a b=true then (bx v [⟨a,b⟩],0) else ([],1)) else ([],1)
theorem a7A (v:List Mark) (a b:Int):(a4k v a b).1.length≤5:=by
 have:=a0y v [⟨a,b⟩];unfold a4k;split
 ·simp
 ·split
  ·split
   ·exact this
   ·simp
  ·simp
theorem a6G (v:List Mark) (a b:Int) (hv:v.length≤4611686018427387904):Ev (fun k=>Y48.f k v a b) (a4k v a b):=by
 have jF:Ev (fun k=>Y48.j0 k v true a b) ([],1):=Ev.step (f:=fun _=>some ([],1)) (fun k=>by simp [Y48.j0]) (Ev.now _);have jT:Ev (fun k=>Y48.j0 k v false a b) (bx v [⟨a,b⟩],0):=Ev.step (fun k=>by rw [Y48.j0]) (bG (by simp) (Ev.bind (a3k v [⟨a,b⟩] hv (by simp)) (Ev.now _)));unfold Y48.f a4k;refine ez (fun h=>?_) (fun h=>?_)
 ·rw [if_pos h];exact Ev.now _
 ·rw [if_neg h];refine Ev.bind (a0S v hv) ?_
  cases bX v with
  | false=>exact bG (by simp) jF
  | true =>
   refine aX rfl (bp (a2N _ _) ?_)
   cases eM a b with
   | false=>exact jF
   | true=>exact jT
theorem a4r {b:List Int} {a m z:Int} (h:dK b a m z):∃ x y a' m',Y53.f b a m z=some (x,y,a',m',z)∧dK b a' m' z:=by
 obtain ⟨r,a1,m1,e,g⟩:=a1Y h 15 (by omega);unfold Y53.f;simp only [e,Option.bind_some]
 cases r with
 | true =>
  obtain ⟨p,a2,m2,e2,p0,p1,_,g2⟩:=fq g 3 (by omega);have p1:=p1 (by omega);obtain ⟨q,a3,m3,e3,q0,q1,_,g3⟩:=fq g2 4 (by omega);have q1:=q1 (by omega);rw [if_pos rfl];simp only [e2,e3,Option.bind_some];rw [if_pos p0,if_pos (by simp only [List.length_cons,List.length_nil];omega),if_pos q0,if_pos (by simp only [List.length_cons,List.length_nil];omega)];exact ⟨_,_,a3,m3,rfl,g3⟩
 | false =>
  obtain ⟨p,a2,m2,e2,p0,p1,_,g2⟩:=fq g 3 (by omega);obtain ⟨q,a3,m3,e3,q0,q1,_,g3⟩:=fq g2 4 (by omega);rw [if_neg (by simp)];simp only [e2,e3,Option.bind_some];exact ⟨_,_,a3,m3,rfl,g3⟩
theorem a4W {b:List Int} {z:Int}:∀ (d:Nat) (v:List Mark) (a m:Int),d≤1000→v.length≤5→dK b a m z →
  ∃ v' a' m',Ev (fun k=>Y17.l0 k v (d:Int) b a m z) (v',a',m',z)∧v'.length≤6∧dK b a' m' z
 | 0,v,a,m,hd,hv,h=>by
  obtain ⟨t,a1,m1,e1,g1⟩:=a1Y h 15 (by omega)
  cases t with
  | true =>
   obtain ⟨x,y,a2,m2,e2,g2⟩:=a4r g1;refine ⟨v ++ [⟨x,y⟩],a2,m2,Ev.step (f:=fun _=>some (v ++ [⟨x,y⟩],a2,m2,z)) (fun k=>?_) (Ev.now _),by simp;omega,g2⟩;simp only [Y17.l0,e1,e2,Option.bind_some];rw [if_neg (by omega),if_pos trivial,if_pos (by omega)]
  | false =>
   refine ⟨v,a1,m1,Ev.step (f:=fun _=>some (v,a1,m1,z)) (fun k=>?_) (Ev.now _),by omega,g1⟩;simp only [Y17.l0,e1,Option.bind_some];rw [if_neg (by omega),if_neg (by simp)]
 | d+1,v,a,m,hd,hv,h=>by
  obtain ⟨x,y,a1,m1,e1,g1⟩:=a4r h;have hs:=a6G v x y (by omega);have hl:=a7A v x y;(have hw:wrap64 (((d+1:Nat):Int)-1)=(d:Int):=by rw [w64 (by omega) (by omega)];omega);by_cases c:(a4k v x y).2=0
  ·obtain ⟨v',a2,m2,e2,h2,g2⟩:=a4W d (a4k v x y).1 a1 m1 (by omega) hl g1;refine ⟨v',a2,m2,Ev.step (fun k=>by simp only [Y17.l0,e1,Option.bind_some,hw];rw [if_pos (by omega)]) (Ev.bind hs (aX c e2)),h2,g2⟩
  ·obtain ⟨v',a2,m2,e2,h2,g2⟩:=a4W d v a1 m1 (by omega) hv g1;refine ⟨v',a2,m2,Ev.step (fun k=>by simp only [Y17.l0,e1,Option.bind_some,hw];rw [if_pos (by omega)]) (Ev.bind hs (bG c e2)),h2,g2⟩
theorem a7P {b:List Int} {a m z:Int} (h:dK b a m z):∃ v a' m',Ev (fun k=>Y17.f k b a m z) (v,a',m',z)∧v.length≤6∧dK b a' m' z:=by
 obtain ⟨r,a1,m1,e,r0,r1,_,g⟩:=fq h 5 (by omega);have r1:=r1 (by omega);obtain ⟨d,rfl⟩:=Int.eq_ofNat_of_zero_le r0;obtain ⟨v,a2,m2,e2,h2,g2⟩:=a4W d [] a1 m1 (by omega) (by simp) g;exact ⟨v,a2,m2,bp e e2,h2,g2⟩
theorem a4T (t:ByteArray) (i j:Nat):(t.extract i j).size≤t.size:=by
 rw [ByteArray.size_extract];omega
theorem b0f {b:List Int} {z:Int} (t:ByteArray) (ht:t.size≤1000000) (i:Nat) (hi:i≤t.size) (c:ByteArray) (hc:c.size=1) (q:Bool) (hq:q=false→i<t.size) (a m:Int) (h:dK b a m z) :
  ∃ t' a' m',Ev (fun k=>Y29.j0 k t (i:Int) c q b a m z) (t',a',m',z)∧dK b a' m' z:=by
 have l1:=a4T t 0 i;have l2:=a4T t i t.size;have l3:=a4T t (i+1) t.size
 cases q with
 | true =>
  refine ⟨_,a,m,Ev.step (f:=fun _=>some (((t.extract 0 i) ++ c) ++ (t.extract i t.size),a,m,z)) (fun k=>?_) (Ev.now _),h⟩;simp only [Y29.j0,Int.toNat_natCast];rw [if_pos trivial,if_pos (by omega),if_pos (by omega),if_pos (by omega),if_pos (by omega)]
 | false =>
  have hi2:=hq rfl;(have hw:wrap64 ((i:Int)+1)=((i+1:Nat):Int):=by rw [w64 (by omega) (by omega)];omega);obtain ⟨r,a1,m1,e1,g1⟩:=a1Y h 2 (by omega)
  cases r with
  | true =>
   refine ⟨_,a1,m1,Ev.step (f:=fun _=>some ((t.extract 0 i) ++ (t.extract (i+1) t.size),a1,m1,z)) (fun k=>?_) (Ev.now _),g1⟩;simp only [Y29.j0,e1,Option.bind_some,hw,Int.toNat_natCast];rw [if_neg (by simp),if_pos trivial,if_pos (by omega),if_pos (by omega),if_pos (by omega),if_pos (by omega),if_pos (by omega)]
  | false =>
   refine ⟨_,a1,m1,Ev.step (f:=fun _=>some (((t.extract 0 i) ++ c) ++ (t.extract (i+1) t.size),a1,m1,z)) (fun k=>?_) (Ev.now _),g1⟩;simp only [Y29.j0,e1,Option.bind_some,hw,Int.toNat_natCast];rw [if_neg (by simp),if_neg (by simp),if_pos (by omega),if_pos (by omega),if_pos (by omega),if_pos (by omega),if_pos (by omega),if_pos (by omega)]
theorem b3k {b:List Int} {a m z:Int} (h:dK b a m z) (t:ByteArray) (ht:t.size≤1000000):∃ t' a' m',Ev (fun k=>Y29.f k b a m z t) (t',a',m',z)∧dK b a' m' z:=by
 have hw:wrap64 ((t.size:Int)+1)=(t.size:Int)+1:=w64 (by omega) (by omega)
 have key:∃ r a' m',Y2.f b a m z ((t.size:Int)+1)=some (r,a',m',z)∧0≤r∧r≤(t.size:Int)∧dK b a' m' z:=by
  obtain ⟨r,a1,m1,e,r0,r1,r2,g⟩:=fq h ((t.size:Int)+1) (by omega);refine ⟨r,a1,m1,e,r0,?_,g⟩;by_cases c:(t.size:Int)+1≤1
  ·have:=r2 c;omega
  ·have:=r1 (by omega);omega
 obtain ⟨r,a1,m1,e1,r0,r1,g1⟩:=key;obtain ⟨i,rfl⟩:=Int.eq_ofNat_of_zero_le r0;obtain ⟨p,a2,m2,e2,p0,p1,_,g2⟩:=fq g1 17 (by omega);have p1:=p1 (by omega);(have hs:(strOfNums ([bt (⟨#[32,10,48,97,45,110,44,58,93,255,40,120,126,49,128,225,59]⟩:ByteArray) p]:List Int)).size=1:=by rw [strOfNums_size];rfl);by_cases c:(i:Int)=(t.size:Int)
 ·obtain ⟨t',a3,m3,e3,g3⟩:=b0f t ht i (by omega) _ hs true (by simp) a2 m2 g2;refine ⟨t',a3,m3,?_,g3⟩;unfold Y29.f;rw [hw];exact bp e1 (bp e2 (aX p0 (aX p1 (bp rfl (aX c e3)))))
 ·obtain ⟨q,a3,m3,e3,g3⟩:=a1Y g2 3 (by omega);obtain ⟨t',a4,m4,e4,g4⟩:=b0f t ht i (by omega) _ hs q (fun _=>by omega) a3 m3 g3;refine ⟨t',a4,m4,?_,g4⟩;unfold Y29.f;rw [hw];exact bp e1 (bp e2 (aX p0 (aX p1 (bp rfl (bG c (bp e3 e4))))))
abbrev Sib:=S48
def a1a (a b c d:Int):Bool:=decide (a<c) || (decide (a=c) && decide (b<d))
def a1C (t:ByteArray) (gone:Bool):Bool:=decide (t.size≤16) && (!gone || decide (t.toList=[]))
def a1Z (v:List Mark) (x:Sib):Bool:=eM x.f0.f0 x.f0.f1 && (dP v x.f0.f0 x.f0.f1 && a1C x.f2 x.f1)
def cg (v:List Mark):Option Sib→List Sib→Bool
 | _,[]=>true
 | none,x :: r=>a1Z v x && cg v (some x) r
 | some y,x :: r=>a1Z v x && (a1a y.f0.f0 y.f0.f1 x.f0.f0 x.f0.f1 && cg v (some x) r)
def cS (v:List Mark) (s:List Sib):Bool:=bX v && (decide (s.length≤8) && cg v none s)
def a0Q (l:List Sib) (i:Nat):Option Sib:=if i=0 then none else some (l.getD (i-1) z48)
theorem a5C {l:List Sib} {i:Nat} {x:Sib} (h:l.getD i z48=x):a0Q l (i+1)=some x:=by
 simp only [a0Q,Nat.add_sub_cancel,h];simp
theorem a7y (a b c d:Int):Y74.f a b c d=some (a1a a b c d):=by
 unfold Y74.f a1a;by_cases h:a<c
 ·rw [if_pos h];simp [h]
 ·rw [if_neg h];by_cases h2:a=c
  ·rw [if_pos h2];simp [h2]
  ·rw [if_neg h2];simp [h,h2]
def b2f (a b:Int):Int:=if a<b then -1 else if a>b then 1 else 0
theorem a7u (a b:Int):Y75.f a b=some (b2f a b):=by
 simp only [Y75.f,Y85.f,b2f];by_cases h:a<b
 ·simp [h]
 ·by_cases h2:a>b
  ·simp [h,h2]
  ·simp [h,h2]
theorem b5Z (x y:Int):Ev (fun k=>Y58.f k [x,y]) (if x=0 then y else x):=by
 unfold Y58.f;have hx:rd [x,y] 0=x:=rfl;have hy:rd [x,y] 1=y:=rfl;have hl:(([x,y]:List Int).length:Int)=2:=rfl;rw [hl];refine Ev.step (f:=fun k=>if x=0 then Y58.l0 k 0 [x,y] 2 1 else some x) (fun k=>?_) ?_
 ·simp only [Y58.l0,hx,hl];rw [if_pos (by omega),if_pos (by omega),if_pos (by omega),w64 (by omega) (by omega)];rfl
 ·refine ez (fun h=>?_) (fun h=>?_)
  ·rw [if_pos h];refine Ev.step (f:=fun k=>if y=0 then Y58.l0 k 0 [x,y] 2 2 else some y) (fun k=>?_) ?_
   ·simp only [Y58.l0,hy,hl];rw [if_pos (by omega),if_pos (by omega),if_pos (by omega),w64 (by omega) (by omega)];rfl
   ·refine ez (fun h=>?_) (fun h=>Ev.now _);refine Ev.step (f:=fun _=>some y) (fun k=>?_) (Ev.now _);simp only [Y58.l0];rw [if_neg (by omega),h]
  ·rw [if_neg h];exact Ev.now _
def a3r (a b c d:Int):Int:=if b2f a c=0 then b2f b d else b2f a c
theorem a3S (a b c d:Int):Ev (fun k=>Y54.f k a b c d) (a3r a b c d):=by
 unfold Y54.f;exact bp (a7u a c) (bp (a7u b d) (Ev.bind (b5Z _ _) (Ev.now _)))
theorem a7c (a b c d:Int):decide (a3r a b c d≥0)=!a1a a b c d:=by
 unfold a3r b2f a1a;by_cases h1:a<c
 ·simp [h1]
 ·by_cases h2:a>c
  ·(have:¬ a=c:=by omega);simp [h1,h2,this]
  ·(have:a=c:=by omega);subst this;by_cases h3:b<d
   ·simp [h3]
   ·by_cases h4:b>d
    ·simp [h3,h4]
    ·simp [h3,h4]
theorem a8C (t:ByteArray) (g:Bool):Y88.f t g=some (a1C t g):=by
 unfold Y88.f a1C;by_cases h:(t.size:Int)≤16
 ·(have h':t.size≤16:=by omega);rw [if_pos h]
  cases g with
  | true =>
   by_cases e:t.toList=[]
   ·simp [h',e]
   ·simp [h',e]
  | false=>simp [h']
 ·(have h':¬ t.size≤16:=by omega);rw [if_neg h];simp [h']
theorem a2K (v:List Mark) (hv:v.length≤4611686018427387904) (l:List Sib) (hl:l.length≤1048576):∀ (s:List Sib) (i:Nat),l.drop i=s→i≤l.length →
  Ev (fun k=>Y8.l0 k l (l.length:Int) (i:Int) v l) (cg v (a0Q l i) s)
 | [],i,h,hi=>by
  have:=dy h hi;refine Ev.step (f:=fun _=>some true) (fun k=>?_) (by simp only [cg];exact Ev.now _);simp only [Y8.l0];rw [if_neg (by omega)]
 | x :: s,i,h,hi=>by
  obtain ⟨h1,h2,h3⟩:=cX h z48;(have hr:aa l (i:Int)=x:=by simpa [aa] using h2);have ih:=a2K v hv l hl s (i+1) h3 (by omega);rw [a5C h2] at ih
  have hj:∀ b:Bool,Ev (fun k=>Y8.j2 k l (l.length:Int) (i:Int) b v l) (!b && cg v (some x) s):=fun b=>by
   cases b with
   | true=>exact Ev.step (f:=fun _=>some false) (fun k=>by simp [Y8.j2]) (Ev.now _)
   | false=>exact Ev.step (fun k=>by simp only [Y8.j2];rw [if_neg (by simp),w64 (x:=(i:Int)+1) (by omega) (by omega)]) (by simpa using ih)
  have main:∀ (p:Bool) (g:Nat→Option Bool),Ev g (p && cg v (some x) s)→Ev (fun k=>(Y72.f x.f0.f0 x.f0.f1).bind fun t=>if t=true then ((Y59.f k v x.f0.f0 x.f0.f1).bind fun t=>if t=true then ((Y88.f x.f2 x.f1).bind fun t=>if t=true then g k else Y8.j2 k l (l.length:Int) (i:Int) true v l) else Y8.j2 k l (l.length:Int) (i:Int) true v l) else Y8.j2 k l (l.length:Int) (i:Int) true v l) (a1Z v x && (p && cg v (some x) s)):=by
   intro p g hg;unfold a1Z;refine bp (a4b _ _) ?_
   cases eM x.f0.f0 x.f0.f1 with
   | false=>exact bG (by simp) (by simpa using hj true)
   | true =>
    refine aX rfl (Ev.bind (a4S v _ _ hv) ?_)
    cases dP v x.f0.f0 x.f0.f1 with
    | false=>exact bG (by simp) (by simpa using hj true)
    | true =>
     refine aX rfl (bp (a8C _ _) ?_)
     cases a1C x.f2 x.f1 with
     | false=>exact bG (by simp) (by simpa using hj true)
     | true=>exact aX rfl (by simpa using hg)
  by_cases hi0:i=0
  ·(have hp:a0Q l i=none:=by simp [a0Q,hi0]);rw [hp];have h0:¬ ((i:Int)>0):=by omega
   refine Ev.step (fun k=>?_) (show Ev _ (cg v none (x :: s)) from by
    have:=main true _ (by simpa using hj false)
    simpa [cg] using this)
   simp only [Y8.l0,hr,if_neg h0];rw [if_pos (by omega),if_pos (by omega),if_pos (by omega)]
  ·(have hp:a0Q l i=some (l.getD (i-1) z48):=by simp [a0Q,hi0]);rw [hp];generalize hy:l.getD (i-1) z48=y
   have hq:aa l ((i:Int)-1)=y:=by
    rw [← hy];simp only [aa];congr 1;omega
   (have h0:(i:Int)>0:=by omega);have hw:wrap64 ((i:Int)-1)=(i:Int)-1:=w64 (by omega) (by omega);(have hA:(0:Int)≤(i:Int)-1:=by omega);have hB:(i:Int)-1<(l.length:Int):=by omega
   refine Ev.step (fun k=>?_) (show Ev _ (cg v (some y) (x :: s)) from by
    have:=main (a1a y.f0.f0 y.f0.f1 x.f0.f0 x.f0.f1) (fun k=>(Y54.f k y.f0.f0 y.f0.f1 x.f0.f0 x.f0.f1).bind fun t=>Y8.j2 k l (l.length:Int) (i:Int) (decide (t≥0)) v l)
     (Ev.bind (a3S _ _ _ _) (by
      have:=hj (decide (a3r y.f0.f0 y.f0.f1 x.f0.f0 x.f0.f1≥0));rw [a7c] at this ⊢
      simpa using this))
    simpa [cg] using this)
   simp only [Y8.l0,hr,if_pos h0,hw,if_pos hA,if_pos hB,hq];rw [if_pos (by omega),if_pos (by omega),if_pos (by omega)]
theorem a0v (v:List Mark) (l:List Sib) (hv:v.length≤4611686018427387904) (hl:l.length≤1048576):Ev (fun k=>Y8.f k v l) (cS v l):=by
 unfold Y8.f cS;refine Ev.bind (a0T v hv) ?_
 cases bX v with
 | false=>exact bG (by simp) (Ev.step (f:=fun _=>some false) (fun k=>by simp [Y8.j0]) (Ev.now _))
 | true =>
  refine aX rfl ?_;by_cases h:l.length≤8
  ·(have hd:decide ((l.length:Int)>8)=false:=by simp;omega);rw [hd];refine Ev.step (fun k=>by simp only [Y8.j0];rw [if_neg (by simp)]) ?_;simpa [h,a0Q] using a2K v hv l hl l 0 rfl (by omega)
  ·(have hd:decide ((l.length:Int)>8)=true:=by simp;omega);rw [hd];exact Ev.step (f:=fun _=>some false) (fun k=>by simp [Y8.j0]) (by simp [h];exact Ev.now _)
theorem a2Q (v:List Mark) (hv:v.length≤4611686018427387904) (hk:bX v=true) (l:List Sib) (hl:l.length≤1048576):∀ (s:List Sib) (i:Nat),l.drop i=s→i≤l.length →
  Ev (fun k=>Y3.l0 k (i:Int) v l) (cg v (a0Q l i) s)
 | [],i,h,hi=>by
  have:=dy h hi;refine Ev.step (f:=fun _=>some true) (fun k=>?_) (by simp only [cg];exact Ev.now _);simp only [Y3.l0];rw [if_neg (by omega)]
 | x :: s,i,h,hi=>by
  obtain ⟨h1,h2,h3⟩:=cX h z48;(have hr:aa l (i:Int)=x:=by simpa [aa] using h2);have ih:=a2Q v hv hk l hl s (i+1) h3 (by omega);rw [a5C h2] at ih
  have hj:∀ b:Bool,Ev (fun k=>if b=true then Y3.l0 k ((i:Int)+1) v l else some false) (b && cg v (some x) s):=fun b=>by
   cases b with
   | false=>exact bG (by simp) (Ev.now _)
   | true=>exact aX rfl (by simpa using ih)
  have hi1:wrap64 ((i:Int)+1)=(i:Int)+1:=w64 (by omega) (by omega)
  have main:∀ (p:Bool) (g:Nat→Option Bool),Ev g (p && cg v (some x) s)→Ev (fun k=>(Y36.f k v x.f0.f0 x.f0.f1).bind fun t=>if t=true then (if (x.f2.size:Int)>16 then some false else (if x.f1=true then (if x.f2.toList=([]:List UInt8) then g k else some false) else g k)) else some false) (a1Z v x && (p && cg v (some x) s)):=by
   intro p g hg;(have e:cD v x.f0.f0 x.f0.f1=(eM x.f0.f0 x.f0.f1 && dP v x.f0.f0 x.f0.f1):=by simp [cD,hk]);unfold a1Z;rw [← Bool.and_assoc (eM _ _),← e];refine Ev.bind (a0x v _ _ hv) ?_
   cases cD v x.f0.f0 x.f0.f1 with
   | false=>exact bG (by simp) (Ev.now _)
   | true =>
    refine aX rfl ?_;unfold a1C;by_cases hs:(x.f2.size:Int)>16
    ·(have hs':¬ x.f2.size≤16:=by omega);exact aX hs (by simpa [hs'] using Ev.now false)
    ·(have hs':x.f2.size≤16:=by omega);refine bG hs ?_
     cases hg1:x.f1 with
     | false=>exact bG (by simp) (by simpa [hs'] using hg)
     | true =>
      refine aX rfl ?_;by_cases he:x.f2.toList=[]
      ·exact aX he (by simpa [hs',he] using hg)
      ·exact bG he (by simpa [hs',he] using Ev.now false)
  by_cases hi0:i=0
  ·(have hp:a0Q l i=none:=by simp [a0Q,hi0]);rw [hp];have h0:¬ ((i:Int)>0):=by omega
   refine Ev.step (fun k=>?_) (show Ev _ (cg v none (x :: s)) from by
    have:=main true (fun k=>Y3.l0 k ((i:Int)+1) v l) (by simpa using ih)
    simpa [cg] using this)
   simp only [Y3.l0,hr,if_neg h0,hi1];rw [if_pos (by omega),if_pos (by omega)]
  ·(have hp:a0Q l i=some (l.getD (i-1) z48):=by simp [a0Q,hi0]);rw [hp];generalize hy:l.getD (i-1) z48=y
   have hq:aa l ((i:Int)-1)=y:=by
    rw [← hy];simp only [aa];congr 1;omega
   (have h0:(i:Int)>0:=by omega);have hw:wrap64 ((i:Int)-1)=(i:Int)-1:=w64 (by omega) (by omega);(have hA:(0:Int)≤(i:Int)-1:=by omega);have hB:(i:Int)-1<(l.length:Int):=by omega
   refine Ev.step (fun k=>?_) (show Ev _ (cg v (some y) (x :: s)) from by
    have:=main (a1a y.f0.f0 y.f0.f1 x.f0.f0 x.f0.f1) (fun k=>(Y74.f y.f0.f0 y.f0.f1 x.f0.f0 x.f0.f1).bind fun t=>if t=true then Y3.l0 k ((i:Int)+1) v l else some false)
     (bp (a7y _ _ _ _) (hj (a1a y.f0.f0 y.f0.f1 x.f0.f0 x.f0.f1)))
    simpa [cg] using this)
   simp only [Y3.l0,hr,hi1,if_pos h0,hw,if_pos hA,if_pos hB,hq];rw [if_pos (by omega),if_pos (by omega)]
theorem a0c (v:List Mark) (l:List Sib) (hv:v.length≤4611686018427387904) (hl:l.length≤1048576):Ev (fun k=>Y3.f k v l) (cS v l):=by
 unfold Y3.f cS;refine Ev.bind (a0S v hv) ?_
 cases hk:bX v with
 | false=>exact bG (by simp) (Ev.step (f:=fun _=>some false) (fun k=>by simp [Y3.j0]) (Ev.now _))
 | true =>
  refine aX rfl ?_;by_cases h:l.length≤8
  ·(have hd:decide ((l.length:Int)>8)=false:=by simp;omega);rw [hd];refine Ev.step (fun k=>by simp only [Y3.j0];rw [if_neg (by simp)]) ?_;simpa [h,a0Q] using a2Q v hv hk l hl l 0 rfl (by omega)
  ·(have hd:decide ((l.length:Int)>8)=true:=by simp;omega);rw [hd];exact Ev.step (f:=fun _=>some false) (fun k=>by simp [Y3.j0]) (by simp [h];exact Ev.now _)
def b0B (x:Sib) (a b:Int):Bool:=x.f0.f0 == a && x.f0.f1 == b
def eL (a b:Int):Int→List Sib→Int
 | _,[] => -1
 | i,x :: r=>if b0B x a b=true then i else eL a b (i+1) r
theorem b0d (l:List Sib) (a b:Int) (hl:l.length≤4611686018427387904):∀ (s:List Sib) (i:Nat),l.drop i=s→i≤l.length→Ev (fun k=>Y49.l0 k l (i:Int) a b) (eL a b (i:Int) s)
 | [],i,h,hi=>by
  have:=dy h hi;refine Ev.step (f:=fun _=>some (-1)) (fun k=>?_) (Ev.now _);simp only [Y49.l0];rw [if_neg (by omega)]
 | x :: s,i,h,hi=>by
  obtain ⟨h1,h2,h3⟩:=cX h z48;(have hr:aa l (i:Int)=x:=by simpa [aa] using h2);refine Ev.step (f:=fun k=>if b0B x a b=true then some (i:Int) else Y49.l0 k l ((i+1:Nat):Int) a b) (fun k=>?_) ?_
  ·simp only [Y49.l0,hr,b0B];rw [if_pos (by omega),if_pos (by omega),w64 (by omega) (by omega)];rfl
  ·simp only [eL];refine ez (fun h=>?_) (fun h=>?_)
   ·rw [if_pos h];exact Ev.now _
   ·rw [if_neg h];exact b0d l a b hl s (i+1) h3 (by omega)
theorem a7J (l:List Sib) (a b:Int) (hl:l.length≤4611686018427387904):Ev (fun k=>Y49.f k l a b) (eL a b 0 l):=b0d l a b hl l 0 rfl (by omega)
def a3p (v:List Mark) (l:List Sib) (a b:Int):Bool:=cS v l && decide (eL a b 0 l≥0)
theorem a7i (v:List Mark) (l:List Sib) (a b:Int) (hv:v.length≤4611686018427387904) (hl:l.length≤1048576):Ev (fun k=>Y90.f k v l a b) (a3p v l a b):=by
 unfold Y90.f a3p;refine Ev.bind (a0c v l hv hl) ?_
 cases cS v l with
 | false=>exact bG (by simp) (Ev.now _)
 | true=>exact aX rfl (Ev.bind (a7J l a b (by omega)) (Ev.now _))
def a0m (x:Sib):ByteArray:=bI x.f0.f0 ++ bI x.f0.f1 ++ bI (if x.f1=true then 1 else 0) ++ dL x.f2
theorem b2Q (b:Bool):b2e.f b=some (if b=true then 1 else 0):=by
 unfold b2e.f;cases b <;> rfl
theorem a6v (l:List Sib) (a b:Int) (hl:l.length≤4611686018427387904):∀ (s:List Sib) (i:Nat),l.drop i=s→i≤l.length→Ev (fun k=>Y5.l0 k l (l.length:Int) (i:Int) a b) (eL a b (i:Int) s)
 | [],i,h,hi=>by
  have:=dy h hi;refine Ev.step (f:=fun _=>some (-1)) (fun k=>?_) (Ev.now _);simp only [Y5.l0];rw [if_neg (by omega)]
 | x :: s,i,h,hi=>by
  obtain ⟨h1,h2,h3⟩:=cX h z48;(have hr:aa l (i:Int)=x:=by simpa [aa] using h2);refine Ev.step (f:=fun k=>if b0B x a b=true then some (i:Int) else Y5.l0 k l (l.length:Int) ((i+1:Nat):Int) a b) (fun k=>?_) ?_
  ·simp only [Y5.l0,hr,Y96.f,Option.bind_some,b0B];rw [if_pos (by omega),if_pos (by omega),if_pos (by omega),w64 (by omega) (by omega)];rfl
  ·simp only [eL];refine ez (fun h=>?_) (fun h=>?_)
   ·rw [if_pos h];exact Ev.now _
   ·rw [if_neg h];exact a6v l a b hl s (i+1) h3 (by omega)
theorem b0F (v:List Mark) (l:List Sib) (a b:Int) (hl:l.length≤4611686018427387904):Ev (fun k=>Y87.f k v l a b) (eL a b 0 l) :=
 Ev.bind (a6v l a b hl l 0 rfl (by omega)) (Ev.now _)
theorem a2o (v:List Mark) (l:List Sib) (a b:Int) (hv:v.length≤4611686018427387904) (hl:l.length≤1048576):Ev (fun k=>Y77.f k v l a b) (a3p v l a b):=by
 unfold Y77.f a3p;refine Ev.bind (a0v v l hv hl) ?_
 cases cS v l with
 | false=>exact bG (by simp) (Ev.now _)
 | true=>exact aX rfl (Ev.bind (b0F v l a b (by omega)) (Ev.now _))
theorem a1t (v:List Mark):∀ (s:List Sib) (p:Option Sib),cg v p s=true→∀ x ∈ s,a1Z v x=true
 | [],_,_,x,hx=>by simp at hx
 | y :: r,p,h,x,hx=>by
  have h2:a1Z v y=true∧cg v (some y) r=true:=by
   cases p with
   | none=>simpa [cg] using h
   | some z =>
    simp only [cg,Bool.and_eq_true] at h;exact ⟨h.1,h.2.2⟩
  rcases List.mem_cons.1 hx with rfl | hx
  ·exact h2.1
  ·exact a1t v r _ h2.2 x hx
def a1D (l:List Sib):Prop:=∀ x ∈ l,((0≤x.f0.f0∧x.f0.f0≤4294967295)∧0≤x.f0.f1∧x.f0.f1≤4294967295)∧x.f2.size≤16
theorem cK (v:List Mark) (l:List Sib):cS v l=true ↔ bX v=true∧l.length≤8∧cg v none l=true:=by
 simp [cS]
theorem a2y {v:List Mark} {l:List Sib} (h:cS v l=true):a1D l:=fun x hx=>by
 have h1:=a1t v l none ((cK v l).1 h).2.2 x hx
 simp only [a1Z,Bool.and_eq_true,a1C,decide_eq_true_eq] at h1
 have h2:=(a1B _ _).1 h1.1
 omega
theorem a3c (t:ByteArray):(dL t).size≤10+t.size:=by
 have:=bW (t.size:Int);unfold dL;split
 ·show 0≤_;omega
 ·simp only [ByteArray.size_append];omega
theorem a2I (x:Sib):(a0m x).size≤40+x.f2.size:=by
 have p0:=bW x.f0.f0;have p1:=bW x.f0.f1;have p2:=bW (if x.f1=true then 1 else 0);have p3:=a3c x.f2;simp only [a0m,ByteArray.size_append];omega
theorem a2s (v:List Mark):(a0X v).size≤10+20*v.length:=by
 have key:∀ (s:List Mark) (t:ByteArray),(s.foldl (fun t m=>t ++ a0N m) t).size≤t.size+20*s.length:=by
  intro s
  induction s with
  | nil=>intro t;simp
  | cons m r ih =>
   intro t;have:=ih (t ++ a0N m);have p0:=bW m.f0;have p1:=bW m.f1;simp only [List.foldl_cons,List.length_cons];simp only [a0N,ByteArray.size_append] at this ⊢;omega
 have:=key v (bI (v.length:Int));have:=bW (v.length:Int);unfold a0X;omega
def setBytes (v:List Mark) (l:List Sib):ByteArray:=l.foldl (fun t x=>t ++ a0m x) (a0X v ++ bI (l.length:Int))
theorem a5A (l:List Sib) (hl:l.length≤1048576) (hsm:a1D l):∀ (s:List Sib) (i:Nat),l.drop i=s→i≤l.length→∀ t:ByteArray,t.size≤1099511627776+56*i→Ev (fun k=>Y38.l0 k t l (l.length:Int) (i:Int)) (s.foldl (fun t x=>t ++ a0m x) t)
 | [],i,h,hi,t,ht=>by
  have:=dy h hi;refine Ev.step (f:=fun _=>some t) (fun k=>?_) (Ev.now _);simp only [Y38.l0];rw [if_neg (by omega)]
 | x :: s,i,h,hi,t,ht=>by
  obtain ⟨h1,h2,h3⟩:=cX h z48;(have hr:aa l (i:Int)=x:=by simpa [aa] using h2);have hm:x ∈ l:=List.mem_of_mem_drop (by rw [h];exact List.mem_cons_self);have hb:=hsm x hm;have p0:=bW x.f0.f0;have p1:=bW x.f0.f1;have p2:=bW (if x.f1=true then 1 else 0);have p3:=a3c x.f2;have p4:=a2I x;refine Ev.step (fun k=>by simp only [Y38.l0,hr];rw [if_pos (show (i:Int)<l.length by omega),if_pos (show (0:Int)≤i by omega),if_pos (show (i:Int)<l.length by omega),w64 (x:=(i:Int)+1) (by omega) (by omega)]) ?_;refine Ev.bind (a0o (by omega) (by omega)) (Ev.bind (a0o (by omega) (by omega)) (aX (by omega) (bp (b2Q _) (Ev.bind (a0o (by split <;> omega) (by split <;> omega)) (aX (by omega) (Ev.bind (a6O _) (aX (by omega) (aX (by omega) ?_))))))));exact a5A l hl hsm s (i+1) h3 (by omega) (t ++ a0m x) (by simp only [ByteArray.size_append];omega)
theorem a9r (v:List Mark) (l:List Sib) (hv:v.length≤1048576) (hvs:Small v) (hl:l.length≤1048576) (hsm:a1D l):Ev (fun k=>Y38.f k v l) (setBytes v l):=by
 unfold Y38.f;have q0:=a2s v;have q1:=bW (l.length:Int);exact Ev.bind (a8W v hv hvs) (Ev.bind (a0o (by omega) (by omega)) (aX (by omega) (a5A l hl hsm l 0 rfl (by omega) _ (by simp only [ByteArray.size_append];omega))))
theorem a6b (v:List Mark) (l:List Sib) (hl:l.length≤1048576) (hsm:a1D l):∀ (s:List Sib) (i:Nat),l.drop i=s→i≤l.length→∀ t:ByteArray,t.size≤1099511627776+56*i→Ev (fun k=>Y28.l0 k t (i:Int) v l) (s.foldl (fun t x=>t ++ a0m x) t)
 | [],i,h,hi,t,ht=>by
  have:=dy h hi;refine Ev.step (f:=fun _=>some t) (fun k=>?_) (Ev.now _);simp only [Y28.l0];rw [if_neg (by omega)]
 | x :: s,i,h,hi,t,ht=>by
  obtain ⟨h1,h2,h3⟩:=cX h z48;(have hr:aa l (i:Int)=x:=by simpa [aa] using h2);have hm:x ∈ l:=List.mem_of_mem_drop (by rw [h];exact List.mem_cons_self);have hb:=hsm x hm;have p0:=bW x.f0.f0;have p1:=bW x.f0.f1;have p2:=bW (if x.f1=true then 1 else 0);have p3:=a3c x.f2;have p4:=a2I x;refine Ev.step (f:=fun k=>Y28.j1 k t (i:Int) (if x.f1=true then 1 else 0) v l x.f0.f0 x.f0.f1 x.f1 x.f2) (fun k=>?_) ?_
  ·simp only [Y28.l0,hr];rw [if_pos (show (i:Int)<l.length by omega),if_pos (show (0:Int)≤i by omega)];cases x.f1 <;> rfl
  ·refine Ev.step (fun k=>by simp only [Y28.j1];rw [w64 (x:=(i:Int)+1) (by omega) (by omega)]) ?_;refine Ev.bind (a0p (by omega) (by omega)) (aX (by omega) (Ev.bind (a0p (by omega) (by omega)) (aX (by omega) (Ev.bind (a0p (by split <;> omega) (by split <;> omega)) (aX (by omega) (Ev.bind (a6L _) (aX (by omega) ?_)))))));have ih:=a6b v l hl hsm s (i+1) h3 (by omega) (t ++ a0m x) (by simp only [ByteArray.size_append];omega);simp only [a0m,← ByteArray.append_assoc] at ih;simpa [a0m,← ByteArray.append_assoc] using ih
theorem a9Q (v:List Mark) (l:List Sib) (hv:v.length≤1048576) (hvs:Small v) (hl:l.length≤1048576) (hsm:a1D l):Ev (fun k=>Y28.f k v l) (setBytes v l):=by
 unfold Y28.f;have q0:=a2s v;have q1:=bW (l.length:Int);exact Ev.bind (a9I v hv hvs) (Ev.bind (a0p (by omega) (by omega)) (aX (by omega) (a6b v l hl hsm l 0 rfl (by omega) _ (by simp only [ByteArray.size_append];omega))))
def a0a (v:List Mark) (l:List Sib):ByteArray:=if cS v l=true then setBytes v l else ⟨#[]⟩
theorem a1y (v:List Mark) (l:List Sib) (hv:v.length≤1048576) (hl:l.length≤1048576):Ev (fun k=>Y62.f k v l) (a0a v l):=by
 unfold Y62.f a0a;refine Ev.bind (a0c v l (by omega) hl) (ez (fun h=>?_) (fun h=>?_))
 ·rw [if_pos h];exact Ev.bind (a9Q v l hv (a0I ((cK v l).1 h).1) hl (a2y h)) (Ev.now _)
 ·rw [if_neg h];exact Ev.now _
theorem a2T (v:List Mark) (l:List Sib) (hv:v.length≤1048576) (hl:l.length≤1048576):Ev (fun k=>Y67.f k v l) (a0a v l):=by
 unfold Y67.f a0a;refine Ev.bind (a0v v l (by omega) hl) (ez (fun h=>?_) (fun h=>?_))
 ·rw [if_pos h];exact Ev.bind (a9r v l hv (a0I ((cK v l).1 h).1) hl (a2y h)) (Ev.now _)
 ·rw [if_neg h];exact Ev.now _
def ltS (x y:Sib):Bool:=a1a x.f0.f0 x.f0.f1 y.f0.f0 y.f0.f1
theorem a4j {x y:Sib}:ltS x y=true ↔ x.f0.f0<y.f0.f0∨(x.f0.f0=y.f0.f0∧x.f0.f1<y.f0.f1):=by simp [ltS,a1a]
theorem a2X {x y z:Sib} (h:ltS x y=true) (k:ltS y z=true):ltS x z=true:=by
 rw [a4j] at *;omega
theorem b2b {x y:Sib} (h:ltS x y=true):¬ ltS y x=true:=by
 rw [a4j] at *;omega
def a5o (x y:Sib):Prop:=ltS x y=true∨ltS y x=true
def dD:List Sib→Sib→List Sib
 | [],x=>[x]
 | y :: r,x=>if ltS y x=true then y :: dD r x else x :: y :: r
def a8h:List Sib→Sib→List Sib
 | [],x=>[x]
 | y :: r,x=>if ltS x y=true then a8h r x ++ [y] else r.reverse ++ [y,x]
theorem a6q (x:Sib):∀ p:List Sib,(a8h p x).length=p.length+1
 | []=>rfl
 | y :: r=>by
  simp only [a8h];split
  ·rw [List.length_append,a6q x r];rfl
  ·simp
theorem a4p (x y:Sib) (hxy:a5o x y):∀ p:List Sib,(∀ z ∈ p,ltS z y=true)→dD (p ++ [y]) x=if ltS x y=true then dD p x ++ [y] else p ++ [y,x]
 | [],_=>by
  by_cases h:ltS x y=true
  ·rw [if_pos h];simp only [List.nil_append,dD];rw [if_neg (b2b h)];rfl
  ·rw [if_neg h];simp only [List.nil_append,dD];rw [if_pos (hxy.resolve_left h)]
 | z :: p,hp=>by
  have ih:=a4p x y hxy p (fun w hw=>hp w (List.mem_cons_of_mem _ hw));have hz:=hp z List.mem_cons_self;simp only [List.cons_append,dD];by_cases h:ltS x y=true
  ·rw [if_pos h] at ih ⊢;by_cases hzx:ltS z x=true
   ·rw [if_pos hzx,if_pos hzx,ih];rfl
   ·rw [if_neg hzx,if_neg hzx];rfl
  ·rw [if_neg h] at ih ⊢;rw [if_pos (a2X hz (hxy.resolve_left h)),ih]
abbrev a1W (p:List Sib):Prop:=p.Pairwise fun a b=>ltS a b=true
theorem a8z (x:Sib):∀ p:List Sib,a1W p.reverse→(∀ z ∈ p,a5o x z)→a8h p x=dD p.reverse x
 | [],_,_=>rfl
 | y :: r,hs,ha=>by
  rw [List.reverse_cons] at hs ⊢;have h1:=List.pairwise_append.1 hs;rw [a4p x y (ha y List.mem_cons_self) r.reverse (fun z hz=>h1.2.2 z hz y (by simp))];simp only [a8h];rw [a8z x r h1.1 (fun z hz=>ha z (List.mem_cons_of_mem _ hz))]
theorem a2J (x:Sib):∀ (p:List Sib) (z:Sib),z ∈ dD p x→z=x∨z ∈ p
 | [],z,h=>by simpa [dD] using h
 | y :: r,z,h=>by
  simp only [dD] at h;split at h
  ·rcases List.mem_cons.1 h with rfl | h
   ·exact .inr List.mem_cons_self
   ·rcases a2J x r z h with h | h
    ·exact .inl h
    ·exact .inr (List.mem_cons_of_mem _ h)
  ·rcases List.mem_cons.1 h with rfl | h
   ·exact .inl rfl
   ·exact .inr h
theorem a3W (x:Sib):∀ p:List Sib,a1W p→(∀ z ∈ p,a5o x z)→a1W (dD p x)
 | [],_,_=>by simp [dD,a1W]
 | y :: r,hs,ha=>by
  have hs2:=List.pairwise_cons.1 hs;simp only [dD];split
  ·rename_i h;refine List.pairwise_cons.2 ⟨fun z hz=>?_,a3W x r hs2.2 (fun z hz=>ha z (List.mem_cons_of_mem _ hz))⟩;rcases a2J x r z hz with rfl | hz
   ·exact h
   ·exact hs2.1 z hz
  ·rename_i h;have hxy:ltS x y=true:=(ha y List.mem_cons_self).resolve_right h;refine List.pairwise_cons.2 ⟨fun z hz=>?_,hs⟩;rcases List.mem_cons.1 hz with rfl | hz
   ·exact hxy
   ·exact a2X hxy (hs2.1 z hz)
def a7e (p:List Sib) (x:Sib):List Sib:=a8h p.reverse x
theorem a7p:∀ (s p:List Sib),a1W p→(∀ x ∈ s,∀ z ∈ p,a5o x z)→(s.Pairwise fun a b=>a5o b a)→s.foldl a7e p=s.foldl dD p
 | [],_,_,_,_=>rfl
 | x :: s,p,hs,ha,hd=>by
  have hd2:=List.pairwise_cons.1 hd
  have e:a7e p x=dD p x:=by
   have:=a8z x p.reverse (by rw [List.reverse_reverse];exact hs) (fun z hz=>ha x List.mem_cons_self z (List.mem_reverse.1 hz));rw [List.reverse_reverse] at this;exact this
  rw [List.foldl_cons,List.foldl_cons,e];refine a7p s _ (a3W x p hs (ha x List.mem_cons_self)) (fun y hy z hz=>?_) hd2.2;rcases a2J x p z hz with rfl | hz
  ·exact hd2.1 y hy
  ·exact ha y (List.mem_cons_of_mem _ hy) z hz
theorem a3j (f:List Sib→Sib→List Sib) (hf:∀ p x,(f p x).length=p.length+1):∀ (s p:List Sib),(s.foldl f p).length=p.length+s.length
 | [],p=>rfl
 | x :: s,p=>by rw [List.foldl_cons,a3j f hf s,hf,List.length_cons];omega
theorem a0D (x:Sib):∀ p:List Sib,(dD p x).length=p.length+1
 | []=>rfl
 | y :: r=>by
  simp only [dD];split
  ·rw [List.length_cons,a0D x r];rfl
  ·rfl
theorem a6m (v:List Mark):∀ (s:List Sib) (y:Sib),cg v (some y) s=true→∀ z ∈ s,ltS y z=true
 | [],_,_,z,hz=>by cases hz
 | x :: r,y,h,z,hz=>by
  simp only [cg,Bool.and_eq_true] at h;rcases List.mem_cons.1 hz with rfl | hz
  ·exact h.2.1
  ·exact a2X h.2.1 (a6m v r x h.2.2 z hz)
theorem a3y (v:List Mark):∀ (s:List Sib) (o:Option Sib),cg v o s=true→a1W s
 | [],_,_=>List.Pairwise.nil
 | x :: r,o,h=>by
  have h2:cg v (some x) r=true:=by
   cases o with
   | none=>simp only [cg,Bool.and_eq_true] at h;exact h.2
   | some y=>simp only [cg,Bool.and_eq_true] at h;exact h.2.2
  exact List.pairwise_cons.2 ⟨a6m v r x h2,a3y v r _ h2⟩
theorem a3q {v:List Mark} {l:List Sib} (h:cS v l=true):a1W l:=a3y v l none ((cK v l).1 h).2.2
theorem a7T (a b:Int):∀ (l:List Sib) (i:Int),0≤i→eL a b i l<0→∀ z ∈ l,¬ (z.f0.f0=a∧z.f0.f1=b)
 | [],_,_,_,z,hz=>by cases hz
 | x :: r,i,hi,h,z,hz=>by
  simp only [eL] at h;split at h
  ·omega
  ·rename_i hx;rcases List.mem_cons.1 hz with rfl | hz
   ·intro e;exact hx (by simp [b0B,e.1,e.2])
   ·exact a7T a b r (i+1) (by omega) h z hz
def b4q (vb:List Mark) (lb:List Sib) (x:Sib):Bool:=decide (eL x.f0.f0 x.f0.f1 0 lb≥0) || !dP vb x.f0.f0 x.f0.f1
def b4l (va:List Mark) (la:List Sib) (x:Sib):Bool:=decide (eL x.f0.f0 x.f0.f1 0 la<0) && !dP va x.f0.f0 x.f0.f1
def kept (va:List Mark) (la:List Sib) (vb:List Mark) (lb:List Sib):List Sib:=la.filter (b4q vb lb) ++ lb.filter (b4l va la)
noncomputable def a0R (va:List Mark) (la:List Sib) (vb:List Mark) (lb:List Sib):List Mark × List Sib × Int :=
 if cS va la=true∧cS vb lb=true then (if (kept va la vb lb).length>8 then ([],[],9) else (bx va vb,(kept va la vb lb).foldl dD [],0)) else ([],[],1)
theorem a7x (va:List Mark) (la:List Sib) (vb:List Mark) (lb:List Sib):(a0R va la vb lb).1.length≤5∧(a0R va la vb lb).2.1.length≤8:=by
 unfold a0R;split
 ·split
  ·simp
  ·refine ⟨a1S va vb 5 1,?_⟩;have:=a3j dD (fun p x=>a0D x p) (kept va la vb lb) [];simp only [List.length_nil] at this;show (List.foldl dD [] (kept va la vb lb)).length≤8;omega
 ·simp
theorem a5Y (pre:List Sib) (m:Sib) (s:List Sib) (d:Sib):(pre ++ m :: s).getD pre.length d=m:=by
 simp [List.getD_eq_getElem?_getD]
theorem b2W (x:Sib):∀ (s pre:List Sib),pre.length+s.length≤1048576→Ev (fun k=>Y33.l0 k (pre ++ s) (pre.length:Int) x.f0.f0 x.f0.f1 x.f1 x.f2) (pre ++ dD s x):=by
 have stop:∀ (s pre:List Sib),pre.length+s.length≤1048576→Ev (fun k=>Y33.j1 k (pre ++ s) (pre.length:Int) false x.f0.f0 x.f0.f1 x.f1 x.f2) (pre ++ x :: s):=by
  intro s pre hl;refine Ev.step (fun k=>by simp only [Y33.j1];rw [if_neg (by simp)]) ?_;refine bp rfl (aX (by omega) (aX (by simp;omega) (bp rfl (aX (by simp;omega) (bp rfl (aX (by simp;omega) (bp rfl (bp rfl (aX (by simp;omega) ?_)))))))));(have e:(pre ++ s).take pre.length=pre:=by simp);(have e2:(pre ++ s).drop pre.length=s:=by simp);simp only [Int.toNat_natCast,e,e2,List.nil_append,List.append_assoc,List.singleton_append];exact Ev.now _
 intro s
 induction s with
 | nil =>
  intro pre hl;have:=stop [] pre hl;simp only [dD];refine Ev.step (fun k=>?_) this;simp only [Y33.l0];rw [if_neg (by simp)]
 | cons y r ih =>
  intro pre hl;simp only [List.length_cons] at hl;have hr:aa (pre ++ y :: r) (pre.length:Int)=y:=by simp only [aa,Int.toNat_natCast,a5Y]
  have hl0:∀ k,Y33.l0 (k+1) (pre ++ y :: r) (pre.length:Int) x.f0.f0 x.f0.f1 x.f1 x.f2=Y33.j1 k (pre ++ y :: r) (pre.length:Int) (ltS y x) x.f0.f0 x.f0.f1 x.f1 x.f2:=fun k=>by
   simp only [Y33.l0,hr,a7y,Option.bind_some];rw [if_pos (by simp;omega),if_pos (by omega)];rfl
  refine Ev.step hl0 ?_;simp only [dD]
  cases h:ltS y x with
  | true =>
   rw [if_pos rfl];have e:=ih (pre ++ [y]) (by simp;omega);simp only [List.length_append,List.length_cons,List.length_nil,List.append_assoc,List.cons_append,List.nil_append] at e;refine Ev.step (fun k=>?_) e;simp only [Y33.j1];rw [if_pos trivial,w64 (by omega) (by omega)];rfl
  | false =>
   rw [if_neg (by simp)];exact stop (y :: r) pre (by simp;omega)
theorem a7a (l:List Sib) (x:Sib) (hl:l.length≤1048576):Ev (fun k=>Y33.f k l x.f0.f0 x.f0.f1 x.f1 x.f2) (dD l x):=b2W x l [] (by simpa using hl)
def a1U (vb:List Mark) (lb:List Sib) (x:Sib):Bool:=decide (eL x.f0.f0 x.f0.f1 0 lb≥0) || !cD vb x.f0.f0 x.f0.f1
def a1b (va:List Mark) (la:List Sib) (x:Sib):Bool:=decide (eL x.f0.f0 x.f0.f1 0 la<0) && !cD va x.f0.f0 x.f0.f1
theorem a5b (va:List Mark) (la:List Sib) (vb:List Mark) (lb:List Sib) (v:List Mark) (hva:va.length≤1048576) (hla:la.length≤8) (hlb:lb.length≤8):∀ (s:List Sib) (i:Nat),lb.drop i=s→i≤lb.length→∀ acc:List Sib,acc.length+s.length≤16 →
  Ev (fun k=>Y9.l1 k (i:Int) va la vb lb v acc) (if ((s.filter (a1b va la)).foldl dD acc).length>8 then ([],[],0,0,9) else (v,(s.filter (a1b va la)).foldl dD acc,0,0,0))
 | [],i,h,hi,acc,hc=>by
  have:=dy h hi;show Ev _ (if acc.length>8 then ([],[],0,0,9) else (v,acc,0,0,0));refine Ev.step (f:=fun k=>if (acc.length:Int)>8 then some ([],[],0,0,9) else some (v,acc,0,0,0)) (fun k=>?_) (ez (fun h=>?_) (fun h=>?_))
  ·simp only [Y9.l1,Y61.f,Option.bind_some];rw [if_neg (by omega)]
  ·rw [if_pos (by omega)];exact Ev.now _
  ·rw [if_neg (by omega)];exact Ev.now _
 | x :: s,i,h,hi,acc,hc=>by
  obtain ⟨h1,h2,h3⟩:=cX h z48;simp only [List.length_cons] at hc;have hr:aa lb (i:Int)=x:=by simpa [aa] using h2
  have hj:Ev (fun k=>Y9.j3 k (i:Int) (a1b va la x) va la vb lb v acc) (if (((x :: s).filter (a1b va la)).foldl dD acc).length>8 then ([],[],0,0,9) else (v,((x :: s).filter (a1b va la)).foldl dD acc,0,0,0)):=by
   cases hk:a1b va la x with
   | true =>
    rw [List.filter_cons_of_pos hk,List.foldl_cons];have ih:=a5b va la vb lb v hva hla hlb s (i+1) h3 (by omega) (dD acc x) (by rw [a0D];omega);refine Ev.step (fun k=>by simp only [Y9.j3,hr];rw [if_pos trivial,if_pos (by omega),if_pos (by omega)]) (Ev.bind (a7a acc x (by omega)) ?_);rw [w64 (by omega) (by omega)];exact ih
   | false =>
    rw [List.filter_cons_of_neg (by simp [hk])];have ih:=a5b va la vb lb v hva hla hlb s (i+1) h3 (by omega) acc (by omega);refine Ev.step (fun k=>?_) ih;simp only [Y9.j3];rw [if_neg (by simp),w64 (by omega) (by omega)];rfl
  refine Ev.step (fun k=>by simp only [Y9.l1,hr];rw [if_pos (by omega),if_pos (by omega)]) (Ev.bind (a7J la _ _ (by omega)) ?_);by_cases hn:eL x.f0.f0 x.f0.f1 0 la<0
  ·refine aX hn (Ev.bind (a0x va _ _ (by omega)) ?_);(have e:a1b va la x=!cD va x.f0.f0 x.f0.f1:=by simp [a1b,hn]);rw [e] at hj;exact hj
  ·refine bG hn ?_;(have e:a1b va la x=false:=by simp [a1b,hn]);rw [e] at hj;exact hj
theorem a4R (va:List Mark) (la:List Sib) (vb:List Mark) (lb:List Sib) (v:List Mark) (hva:va.length≤1048576) (hvb:vb.length≤1048576) (hla:la.length≤8) (hlb:lb.length≤8):∀ (s:List Sib) (i:Nat),la.drop i=s→i≤la.length→∀ acc:List Sib,acc.length+s.length≤8 →
  Ev (fun k=>Y9.l0 k (i:Int) va la vb lb v acc) (if ((s.filter (a1U vb lb) ++ lb.filter (a1b va la)).foldl dD acc).length>8 then ([],[],0,0,9) else (v,(s.filter (a1U vb lb) ++ lb.filter (a1b va la)).foldl dD acc,0,0,0))
 | [],i,h,hi,acc,hc=>by
  have:=dy h hi;simp only [List.filter_nil,List.nil_append];refine Ev.step (fun k=>?_) (a5b va la vb lb v hva hla hlb lb 0 rfl (by omega) acc (by simp only [List.length_nil] at hc;omega));simp only [Y9.l0];rw [if_neg (by omega)];rfl
 | x :: s,i,h,hi,acc,hc=>by
  obtain ⟨h1,h2,h3⟩:=cX h z48;simp only [List.length_cons] at hc;have hr:aa la (i:Int)=x:=by simpa [aa] using h2
  have hj:Ev (fun k=>Y9.j1 k (i:Int) (a1U vb lb x) va la vb lb v acc) (if (((x :: s).filter (a1U vb lb) ++ lb.filter (a1b va la)).foldl dD acc).length>8 then ([],[],0,0,9) else (v,((x :: s).filter (a1U vb lb) ++ lb.filter (a1b va la)).foldl dD acc,0,0,0)):=by
   cases hk:a1U vb lb x with
   | true =>
    rw [List.filter_cons_of_pos hk,List.cons_append,List.foldl_cons];have ih:=a4R va la vb lb v hva hvb hla hlb s (i+1) h3 (by omega) (dD acc x) (by rw [a0D];omega);refine Ev.step (fun k=>by simp only [Y9.j1,hr];rw [if_pos trivial,if_pos (by omega),if_pos (by omega)]) (Ev.bind (a7a acc x (by omega)) ?_);rw [w64 (by omega) (by omega)];exact ih
   | false =>
    rw [List.filter_cons_of_neg (by simp [hk])];have ih:=a4R va la vb lb v hva hvb hla hlb s (i+1) h3 (by omega) acc (by omega);refine Ev.step (fun k=>?_) ih;simp only [Y9.j1];rw [if_neg (by simp),w64 (by omega) (by omega)];rfl
  refine Ev.step (fun k=>by simp only [Y9.l0,hr];rw [if_pos (by omega),if_pos (by omega)]) (Ev.bind (a7J lb _ _ (by omega)) ?_);by_cases hn:eL x.f0.f0 x.f0.f1 0 lb≥0
  ·refine aX hn ?_;(have e:a1U vb lb x=true:=by simp [a1U,hn]);rw [e] at hj;exact hj
  ·refine bG hn (Ev.bind (a0x vb _ _ (by omega)) ?_);(have e:a1U vb lb x=!cD vb x.f0.f0 x.f0.f1:=by simp [a1U,hn]);rw [e] at hj;exact hj
theorem a1O {v w:List Mark} {l:List Sib} (hw:bX w=true) (h:cS v l=true):∀ x ∈ l,cD w x.f0.f0 x.f0.f1=dP w x.f0.f0 x.f0.f1:=fun x hx=>by
 have h1:=a1t v l none ((cK v l).1 h).2.2 x hx
 simp only [a1Z,Bool.and_eq_true] at h1
 simp [cD,hw,h1.1]
theorem b5N {va vb:List Mark} {la lb:List Sib} (ha:cS va la=true) (hb:cS vb lb=true):la.filter (a1U vb lb) ++ lb.filter (a1b va la)=kept va la vb lb:=by
 unfold kept;have h1:=((cK va la).1 ha).1;have h2:=((cK vb lb).1 hb).1;congr 1
 ·exact List.filter_congr (fun x hx=>by simp only [a1U,b4q,a1O h2 ha x hx])
 ·exact List.filter_congr (fun x hx=>by simp only [a1b,b4l,a1O h1 hb x hx])
theorem b0z {va vb:List Mark} {la lb:List Sib} (ha:cS va la=true) (hb:cS vb lb=true) (hva:va.length≤1048576) (hvb:vb.length≤1048576) :
  Ev (fun k=>Y9.f k va la vb lb) ((a0R va la vb lb).1,(a0R va la vb lb).2.1,0,0,(a0R va la vb lb).2.2):=by
 have hla:=((cK va la).1 ha).2.1;have hlb:=((cK vb lb).1 hb).2.1;have e:=a4R va la vb lb (bx va vb) hva hvb hla hlb la 0 rfl (by omega) [] (by simpa using hla);rw [b5N ha hb] at e;have hn:=a3j dD (fun p x=>a0D x p) (kept va la vb lb) [];rw [List.length_nil,Nat.zero_add] at hn;rw [hn] at e;unfold a0R;rw [if_pos ⟨ha,hb⟩];refine Ev.bind (a3k va vb (by omega) (by omega)) ?_;by_cases h:(kept va la vb lb).length>8
 ·rw [if_pos h] at e ⊢;exact e
 ·rw [if_neg h] at e ⊢;exact e
theorem a6Q (va:List Mark) (la:List Sib) (vb:List Mark) (lb:List Sib) (hva:va.length≤1048576) (hvb:vb.length≤1048576) (hla:la.length≤1048576) (hlb:lb.length≤1048576) :
  Ev (fun k=>Y51.f k va la vb lb) ((a0R va la vb lb).1,(a0R va la vb lb).2.1,0,0,(a0R va la vb lb).2.2):=by
 unfold Y51.f;have jT:Ev (fun k=>Y51.j0 k true va la vb lb) ([],[],0,0,1):=Ev.step (f:=fun _=>some ([],[],0,0,1)) (fun k=>by simp [Y51.j0,Y61.f]) (Ev.now _);refine Ev.bind (a0c va la (by omega) hla) ?_
 cases ha:cS va la with
 | false =>
  (have e:a0R va la vb lb=([],[],1):=by unfold a0R;rw [if_neg (by simp [ha])]);rw [e];exact bG (by simp) jT
 | true =>
  refine aX rfl (Ev.bind (a0c vb lb (by omega) hlb) ?_)
  cases hb:cS vb lb with
  | false =>
   (have e:a0R va la vb lb=([],[],1):=by unfold a0R;rw [if_neg (by simp [hb])]);rw [e];exact jT
  | true=>exact Ev.step (fun k=>by simp only [Y51.j0];rw [if_neg (by simp)]) (Ev.bind (b0z ha hb hva hvb) (Ev.now _))
theorem b1c (a b c d:Int):decide (a3r a b c d<0)=a1a a b c d:=by
 have h:=a7c a b c d;by_cases h1:a3r a b c d<0
 ·rw [decide_eq_true h1];rw [decide_eq_false (by omega)] at h;simpa using h
 ·rw [decide_eq_false h1];rw [decide_eq_true (by omega)] at h;simpa using h
theorem b0J (x y:Sib):Ev (fun k=>Y78.f k x.f0.f0 x.f0.f1 x.f1 x.f2 y.f0.f0 y.f0.f1 y.f1 y.f2) (a3r x.f0.f0 x.f0.f1 y.f0.f0 y.f0.f1):=Ev.bind (a3S _ _ _ _) (Ev.now _)
theorem b2O (pre:List Sib) (y x:Sib) (q:List Sib):((pre ++ y :: x :: q).set (pre.length+1) y).set pre.length x=pre ++ x :: y :: q:=by
 rw [List.set_append_right _ _ (by omega),List.set_append_right _ _ (by omega)];simp
theorem b1p (n i:Int) {R:List Sib} (x:Sib):∀ (r q:List Sib),r.length+q.length≤1048576 →
  Ev (fun k=>Y0.l0 k (a8h r x ++ q) 0 n (wrap64 (i+1))) R →
  Ev (fun k=>Y0.l1 k (r.reverse ++ x :: q) 0 n i (r.length:Int)) R
 | [],q,hl,h=>by
  refine Ev.step (f:=fun k=>Y0.j2 k ([].reverse ++ x :: q) 0 n i (([]:List Sib).length:Int) false) (fun k=>?_) (Ev.step (fun k=>?_) h)
  ·simp only [Y0.l1];rw [if_neg (by simp)]
  ·simp only [Y0.j2];rw [if_neg (by simp)];rfl
 | y :: r,q,hl,h=>by
  simp only [List.length_cons] at hl;(have hL:(y :: r).reverse ++ x :: q=r.reverse ++ y :: x :: q:=by simp);have hlen:(r.reverse ++ y :: x :: q).length=r.length+(q.length+1+1):=by simp
  have r1:aa (r.reverse ++ y :: x :: q) ((r.length+1:Nat):Int)=x:=by
   simp only [aa,Int.toNat_natCast];rw [show r.reverse ++ y :: x :: q=(r.reverse ++ [y]) ++ x :: q from by simp,show r.length+1=(r.reverse ++ [y]).length from by simp];exact a5Y _ _ _ _
  have r2:aa (r.reverse ++ y :: x :: q) (r.length:Int)=y:=by
   simp only [aa,Int.toNat_natCast];rw [show r.length=r.reverse.length from by simp];exact a5Y _ _ _ _
  (have w1:wrap64 (((r.length+1:Nat):Int)-1)=(r.length:Int):=by rw [w64 (by omega) (by omega)];omega);rw [hL];show Ev (fun k=>Y0.l1 k (r.reverse ++ y :: x :: q) 0 n i ((r.length+1:Nat):Int)) R;refine Ev.step (f:=fun k=>(Y78.f k x.f0.f0 x.f0.f1 x.f1 x.f2 y.f0.f0 y.f0.f1 y.f1 y.f2).bind fun t=>Y0.j2 k (r.reverse ++ y :: x :: q) 0 n i ((r.length+1:Nat):Int) (decide (t<0))) (fun k=>?_) (Ev.bind (b0J x y) ?_)
  ·simp only [Y0.l1,w1,r1,r2];rw [if_pos (by omega),if_pos (by omega),if_pos (by omega),if_pos (by omega),if_pos (by omega)]
  ·rw [b1c]
   cases hk:a1a x.f0.f0 x.f0.f1 y.f0.f0 y.f0.f1 with
   | true =>
    have e:a8h (y :: r) x=a8h r x ++ [y]:=if_pos hk;rw [e,List.append_assoc,List.singleton_append] at h;have ih:=b1p n i x r (y :: q) (by simp;omega) h;refine Ev.step (fun k=>?_) ih;simp only [Y0.j2,w1,r1,r2,Int.toNat_natCast];rw [if_pos trivial,if_pos (by omega),if_pos (by omega),if_pos (by omega),if_pos (by omega)];have:=b2O r.reverse y x q;rw [List.length_reverse] at this;rw [this]
   | false =>
    have e:a8h (y :: r) x=r.reverse ++ [y,x]:=if_neg (show ¬ ltS x y=true by simp only [ltS,hk];simp);rw [e,List.append_assoc] at h;refine Ev.step (fun k=>?_) h;simp only [Y0.j2];rw [if_neg (by simp)];rfl
theorem a6i (p:List Sib) (x:Sib):(a7e p x).length=p.length+1:=by
 unfold a7e;rw [a6q,List.length_reverse]
theorem b1t (n:Nat) (hn:n≤1048576):∀ (s p:List Sib),p.length+s.length=n →
  Ev (fun k=>Y0.l0 k (p ++ s) 0 (n:Int) (p.length:Int)) (s.foldl a7e p)
 | [],p,h=>by
  refine Ev.step (f:=fun _=>some (p ++ [])) (fun k=>?_) (by rw [List.append_nil];exact Ev.now _);simp only [Y0.l0];simp only [List.length_nil] at h;rw [if_neg (by omega)]
 | x :: s,p,h=>by
  simp only [List.length_cons] at h;have ih:=b1t n hn s (a7e p x) (by rw [a6i];omega);rw [a6i] at ih
  have e:=b1p (n:Int) (p.length:Int) (R:=s.foldl a7e (a7e p x)) x p.reverse s (by simp;omega) (by
   rw [w64 (by omega) (by omega)]
   exact ih)
  rw [List.reverse_reverse,List.length_reverse] at e;refine Ev.step (fun k=>?_) e;simp only [Y0.l0];rw [if_pos (by omega)]
theorem a8X (l:List Sib) (hl:l.length≤1048576):Ev (fun k=>Y0.f k l 0 (l.length:Int)) (l.foldl a7e []):=by
 unfold Y0.f;rw [show wrap64 (0+1)=1 from (w64 (by omega) (by omega)).trans (by omega)]
 cases l with
 | nil =>
  refine Ev.step (f:=fun _=>some []) (fun k=>?_) (Ev.now _);simp only [Y0.l0];rw [if_neg (by simp)]
 | cons x s=>exact b1t (x :: s).length hl s [x] (by simp;omega)
set_option maxRecDepth 100000 in
theorem a8l (n:Int) (h0:0≤n) (h1:n<256):∃ r,Ev (fun k=>Y40.f k n) r:=by
 have e1:∀ k,Y40.j1 (k+1) n 0=Y40.j1 1 n 0:=fun k=>by
  rw [Y40.j1,Y40.j1]
 have e:(Y40.j1 1 n 0).isSome=true:=by
  rw [Y40.j1,if_neg (by omega),if_pos (by omega),if_pos (by omega)];rfl
 generalize Y40.j1 1 n 0=z at e e1;obtain ⟨r,rfl⟩:=Option.isSome_iff_exists.1 e;refine ⟨r,?_⟩;unfold Y40.f;exact bG (by omega) (Ev.step (f:=fun k=>Y40.j1 k n 0) (fun k=>by rw [Y40.j0,if_neg (by omega)]) (Ev.step (f:=fun _=>some r) e1 (Ev.now _)))
theorem b1L (l:List Sib) (hl:l.length≤8):Ev (fun k=>Y89.f k l) (l.foldl a7e []):=by
 (have hu:IntKind.u64.wrap (l.length:Int)=(l.length:Int):=by rw [fA];omega);obtain ⟨r,hr⟩:=a8l (l.length:Int) (by omega) (by omega);refine Ev.bind (f:=fun _ t=>some t) ?_ (Ev.now _);unfold Y27.f;rw [hu];refine Ev.bind (Ev.bind hr (Ev.now _)) (Ev.bind ?_ (Ev.now _));refine Ev.step (fun k=>by rw [Y7.f]) (Ev.step (fun k=>by rw [Y7.l0]) (aX ?_ (Ev.bind (a8X l (by omega)) (Ev.now _))));rw [w64 (by omega) (by omega)];omega
end Go.Proofs.YtdlmdikfgclhoaaGreat.Q
namespace Go.Proofs.YtdlmdikfgclhoaaGreat.Q
open Go.RowKit Go.Proofs.YtdlmdikfgclhoaaGreat.P Go.Proofs.YtdlmdikfgclhoaaGreatW.PrintWords Go.Proofs.YtdlmdikfgclhoaaGreatW.PrintMore
theorem a5x (y:Sib):∀ p:List Sib,(∀ z ∈ p,ltS z y=true)→dD p y=p ++ [y]
 | [],_=>rfl
 | z :: p,h=>by
  simp only [dD];rw [if_pos (h z List.mem_cons_self),a5x y p (fun w hw=>h w (List.mem_cons_of_mem _ hw))];rfl
theorem b1W (x y:Sib) (q:List Sib) (hq:∀ z ∈ q,ltS z y=true) (ha:a5o x y):dD (dD q x) y=dD (q ++ [y]) x:=by
 rw [a4p x y ha q hq];by_cases h:ltS x y=true
 ·rw [if_pos h];refine a5x y _ (fun z hz=>?_);rcases a2J x q z hz with rfl | hz
  ·exact h
  ·exact hq z hz
 ·rw [if_neg h];have hyx:=ha.resolve_left h;rw [a5x x q (fun z hz=>a2X (hq z hz) hyx),a4p y x (.inl hyx) q (fun z hz=>a2X (hq z hz) hyx),if_pos hyx,a5x y q hq];simp
theorem a8L (x:Sib):∀ s q:List Sib,a1W (q ++ s)→(∀ z ∈ s,a5o x z)→s.foldl dD (dD q x)=dD (q ++ s) x
 | [],q,_,_=>by simp
 | y :: s,q,hs,ha=>by
  (have hq:∀ z ∈ q,ltS z y=true:=fun z hz=>(List.pairwise_append.1 hs).2.2 z hz y List.mem_cons_self);rw [List.foldl_cons,b1W x y q hq (ha y List.mem_cons_self),a8L x s (q ++ [y]) (by simpa using hs) (fun z hz=>ha z (List.mem_cons_of_mem _ hz))];simp
theorem a2d {v:List Mark} (h:Small v) (n:Int):0≤bz v n∧bz v n≤4294967295:=by
 induction v with
 | nil=>simp [bz]
 | cons m r ih =>
  simp only [bz];split
  ·exact (h m List.mem_cons_self).2
  ·exact ih (fun x hx=>h x (List.mem_cons_of_mem _ hx))
theorem a5M (a b:Int):a≤mx a b∧b≤mx a b∧(mx a b=a∨mx a b=b):=by
 unfold mx;split <;> omega
theorem a3x {a b:List Mark} (ha:Small a) (hb:Small b) (m:Int):∀ (f:Nat) (n:Int),bz (a0w a b f n) m=if n≤m∧m<n+f then mx (bz a m) (bz b m) else 0
 | 0,n=>by
  rw [if_neg (by omega)];rfl
 | f+1,n=>by
  have ih:=a3x ha hb m f (n+1);have h1:=a2d ha n;have h2:=a2d hb n;have h3:=a5M (bz a n) (bz b n);simp only [a0w];by_cases hp:mx (bz a n) (bz b n)>0
  ·rw [if_pos hp];simp only [List.singleton_append,bz];by_cases e:n=m
   ·subst e;rw [if_pos rfl,if_pos (by omega)]
   ·rw [if_neg e,ih];by_cases hc:n+1≤m∧m<n+1+f
    ·rw [if_pos hc,if_pos (by omega)]
    ·rw [if_neg hc,if_neg (by omega)]
  ·rw [if_neg hp,List.nil_append,ih];by_cases e:n=m
   ·subst e;rw [if_neg (by omega),if_pos (by omega)];omega
   ·by_cases hc:n+1≤m∧m<n+1+f
    ·rw [if_pos hc,if_pos (by omega)]
    ·rw [if_neg hc,if_neg (by omega)]
def dR (v u:List Mark) (nd:Int):Int:=bz (bx v u) nd
theorem b3Q {v u:List Mark} (hv:bX v=true) (hu:bX u=true) {nd:Int} (hn:isNode nd=true):dR v u nd=mx (bz v nd) (bz u nd):=by
 have h:=(a7m nd).1 hn;unfold dR bx;rw [a3x (a0I hv) (a0I hu),if_pos (by omega)]
theorem a3f {v u:List Mark} (hv:bX v=true) (hu:bX u=true) {nd:Int} (hn:isNode nd=true):0≤dR v u nd∧dR v u nd≤4294967295∧bz v nd≤dR v u nd:=by
 rw [b3Q hv hu hn];have h1:=a2d (a0I hv) nd;have h2:=a2d (a0I hu) nd;have h3:=a5M (bz v nd) (bz u nd);omega
def di (l:List Sib) (u:List Mark):List Sib:=l.filter fun x=>!dP u x.f0.f0 x.f0.f1
def ff (v u:List Mark) (nd:Int) (t:ByteArray) (g:Bool):Sib:=⟨⟨nd,dR v u nd+1⟩,g,t⟩
theorem a5B (l:List Sib) (u:List Mark):(di l u).length≤l.length:=List.length_filter_le _ _
theorem a6s {v u:List Mark} {l:List Sib} (hv:cS v l=true) (hu:bX u=true) {nd:Int} (hn:isNode nd=true) (t:ByteArray) (g:Bool):∀ z ∈ di l u,a5o (ff v u nd t g) z:=by
 intro z hz;have hz:=(List.mem_filter.1 hz).1;have h1:=a1t v l none ((cK v l).1 hv).2.2 z hz;simp only [a1Z,Bool.and_eq_true] at h1;have h2:z.f0.f1≤bz v z.f0.f0:=of_decide_eq_true h1.2.1;have h3:=a3f ((cK v l).1 hv).1 hu hn;unfold a5o;rw [a4j,a4j];simp only [ff];by_cases e:z.f0.f0=nd
 ·rw [e] at h2 ⊢;omega
 ·omega
def eG (v:List Mark) (l:List Sib) (u:List Mark) (nd:Int) (t:ByteArray) (g:Bool):Bool:=cS v l && (bX u && (isNode nd && a1C t g))
def cE (v:List Mark) (l:List Sib) (u:List Mark) (nd:Int) (t:ByteArray) (g:Bool):List Mark × List Sib × Int × Int × Int :=
 if u.length>400∨t.size>8000 then ([],[],0,0,2)
 else if eG v l u nd t g=true then
  (if dR v u nd≥1000000 then ([],[],0,0,9)
   else if (di l u).length+1>8 then ([],[],0,0,9)
   else (bx (bx v u) [⟨nd,dR v u nd+1⟩],dD (di l u) (ff v u nd t g),nd,dR v u nd+1,0))
 else ([],[],0,0,1)
theorem a4M (v:List Mark) (l:List Sib) (u:List Mark) (nd:Int) (t:ByteArray) (g:Bool):(cE v l u nd t g).1.length≤5∧(cE v l u nd t g).2.1.length≤8:=by
 unfold cE;split
 ·simp
 ·split
  ·split
   ·simp
   ·split
    ·simp
    ·refine ⟨a0y _ _,?_⟩;show (dD (di l u) (ff v u nd t g)).length≤8;rw [a0D];omega
  ·simp
theorem a4U (u:List Mark) (nd:Int) (t:ByteArray) (g:Bool) (n:Int) (v:List Mark) (l:List Sib) (jn:List Mark) (hu:u.length≤1048576) (hl:l.length≤8) (hh:∀ x ∈ l,cD u x.f0.f0 x.f0.f1=dP u x.f0.f0 x.f0.f1) {R:List Mark × List Sib × Int × Int × Int}:∀ (s:List Sib) (i:Nat),l.drop i=s→i≤l.length→(∀ x ∈ s,cD u x.f0.f0 x.f0.f1=dP u x.f0.f0 x.f0.f1)→∀ acc:List Sib,acc.length+s.length≤8 →
  Ev (fun k=>(Y32.f k jn [⟨nd,wrap64 (n+1)⟩]).bind fun a=>(Y33.f k (acc ++ di s u) nd (wrap64 (n+1)) g t).bind fun b=>if (b.length:Int)>8 then some ([],[],0,0,9) else some (a,b,nd,wrap64 (n+1),0)) R →
  Ev (fun k=>Y18.l0 k u nd t g n (i:Int) v l jn acc) R
 | [],i,h,hi,_,acc,hc,hR=>by
  have:=dy h hi;simp only [di,List.filter_nil,List.append_nil] at hR;refine Ev.step (fun k=>?_) hR;simp only [Y18.l0,Y61.f,Option.bind_some];rw [if_neg (by omega)]
 | x :: s,i,h,hi,hs,acc,hc,hR=>by
  obtain ⟨h1,h2,h3⟩:=cX h z48;simp only [List.length_cons] at hc;(have hr:aa l (i:Int)=x:=by simpa [aa] using h2);refine Ev.step (fun k=>by simp only [Y18.l0,hr];rw [if_pos (by omega),if_pos (by omega)]) (Ev.bind (a0x u _ _ (by omega)) ?_);rw [hs x List.mem_cons_self]
  cases hk:dP u x.f0.f0 x.f0.f1 with
  | true =>
   have e:di (x :: s) u=di s u:=List.filter_cons_of_neg (by simp [hk]);rw [e] at hR;have ih:=a4U u nd t g n v l jn hu hl hh s (i+1) h3 (by omega) (fun y hy=>hs y (List.mem_cons_of_mem _ hy)) acc (by omega) hR;refine aX rfl ?_;rw [w64 (by omega) (by omega)];exact ih
  | false =>
   have e:di (x :: s) u=x :: di s u:=List.filter_cons_of_pos (by simp [hk]);rw [e] at hR;have ih:=a4U u nd t g n v l jn hu hl hh s (i+1) h3 (by omega) (fun y hy=>hs y (List.mem_cons_of_mem _ hy)) (acc ++ [x]) (by simp;omega) (by rw [List.append_assoc,List.singleton_append];exact hR);refine bG (by simp) (aX (by omega) ?_);rw [w64 (by omega) (by omega)];exact ih
theorem a3P (v:List Mark) (l:List Sib) (u:List Mark) (nd:Int) (t:ByteArray) (g:Bool) (hv:v.length≤1048576) (hl:l.length≤1048576) (hu:u.length≤1048576) :
  Ev (fun k=>Y18.f k v l u nd t g) (cE v l u nd t g):=by
 unfold Y18.f;by_cases hz:u.length>400∨t.size>8000
 ·(have e:cE v l u nd t g=([],[],0,0,2):=by unfold cE;rw [if_pos hz]);rw [e];have jT:Ev (fun k=>Y18.j0 k u nd t g true v l) ([],[],0,0,2):=Ev.step (f:=fun _=>some ([],[],0,0,2)) (fun k=>by simp [Y18.j0,Y61.f]) (Ev.now _);by_cases h4:u.length>400
  ·exact aX (by omega) jT
  ·have:decide ((t.size:Int)>8000)=true:=decide_eq_true (by omega);rw [this];exact bG (by omega) jT
 ·(have hz1:¬ u.length>400:=fun h=>hz (.inl h));(have hz2:¬ t.size>8000:=fun h=>hz (.inr h));have hd:decide ((t.size:Int)>8000)=false:=decide_eq_false (by omega);rw [hd];refine bG (by omega) ?_
  have jI:eG v l u nd t g=false→Ev (fun k=>Y18.j1 k u nd t g true v l) (cE v l u nd t g):=fun h=>by
   (have e:cE v l u nd t g=([],[],0,0,1):=by unfold cE;rw [if_neg hz,if_neg (by simp [h])]);rw [e];exact Ev.step (f:=fun _=>some ([],[],0,0,1)) (fun k=>by simp [Y18.j1,Y61.f]) (Ev.now _)
  have jT:eG v l u nd t g=true→Ev (fun k=>Y18.j1 k u nd t g false v l) (cE v l u nd t g):=fun h=>by
   have hp:=h;simp only [eG,Bool.and_eq_true] at hp;obtain ⟨p1,p2,p3,p4⟩:=hp;have hl8:=((cK v l).1 p1).2.1;have hn:=a3f ((cK v l).1 p1).1 p2 p3;refine Ev.step (fun k=>by simp only [Y18.j1];rw [if_neg (by simp)]) (Ev.bind (a3k v u (by omega) (by omega)) (Ev.bind (a5y (bx v u) nd (by have:=a0y v u;omega)) ?_));show Ev (fun k=>if dR v u nd≥1000000 then _ else _) _;unfold cE;rw [if_neg hz,if_pos h];by_cases hf:dR v u nd≥1000000
   ·rw [if_pos hf];exact aX hf (Ev.now _)
   ·rw [if_neg hf];refine bG hf (a4U u nd t g (dR v u nd) v l (bx v u) hu hl8 (a1O p2 p1) l 0 rfl (by omega) (a1O p2 p1) [] (by simpa using hl8) ?_);rw [List.nil_append,w64 (by omega) (by omega)];have hr:=a5B l u;refine Ev.bind (a3k (bx v u) _ (by have:=a0y v u;omega) (by simp)) (Ev.bind (a7a (di l u) (ff v u nd t g) (by omega)) ?_);rw [a0D];by_cases h8:(di l u).length+1>8
    ·rw [if_pos h8];exact aX (by omega) (Ev.now _)
    ·rw [if_neg h8];exact bG (by omega) (Ev.now _)
  refine Ev.step (fun k=>by simp only [Y18.j0];rw [if_neg (by simp)]) (Ev.bind (a0c v l (by omega) hl) ?_)
  cases h1:cS v l with
  | false=>exact bG (by simp) (jI (by simp [eG,h1]))
  | true =>
   refine aX rfl (Ev.bind (a0S u (by omega)) ?_)
   cases h2:bX u with
   | false=>exact bG (by simp) (jI (by simp [eG,h2]))
   | true =>
    refine aX rfl (bp (a7E _) ?_)
    cases h3:isNode nd with
    | false=>exact bG (by simp) (jI (by simp [eG,h3]))
    | true =>
     refine aX rfl ?_;by_cases h4:(t.size:Int)>16
     ·exact aX h4 (jI (by simp [eG,a1C];omega))
     ·refine bG h4 ?_
      cases g with
      | false =>
       refine bG (by simp) (jT ?_);simp [eG,h1,h2,h3,a1C];omega
      | true =>
       refine aX rfl ?_;by_cases h5:t.toList=[]
       ·(have:(t.toList != ([]:List UInt8))=false:=by simp [h5]);rw [this];refine jT ?_;simp [eG,h1,h2,h3,a1C,h5];omega
       ·(have:(t.toList != ([]:List UInt8))=true:=by simp [h5]);rw [this];refine jI ?_;simp [eG,a1C,h5]
theorem a5c (u:List Mark) (nd n1:Int) (l:List Sib) (jn:List Mark) (hu:u.length≤1048576) (hl:l.length≤8) {R:List Mark × List Sib × Int × Int × Int}:∀ (s:List Sib) (i:Nat),l.drop i=s→i≤l.length→∀ acc:List Sib,acc.length+s.length≤9 →
  Ev (fun k=>if n1>1000000 then Y20.j2 k jn true nd n1 (acc ++ di s u) else Y20.j2 k jn (decide (((acc ++ di s u).length:Int)>8)) nd n1 (acc ++ di s u)) R →
  Ev (fun k=>Y20.l0 k u jn l (l.length:Int) (i:Int) nd n1 acc) R
 | [],i,h,hi,acc,hc,hR=>by
  have:=dy h hi;simp only [di,List.filter_nil,List.append_nil] at hR;refine Ev.step (fun k=>?_) hR;simp only [Y20.l0];rw [if_neg (by omega)]
 | x :: s,i,h,hi,acc,hc,hR=>by
  obtain ⟨h1,h2,h3⟩:=cX h z48;simp only [List.length_cons] at hc;(have hr:aa l (i:Int)=x:=by simpa [aa] using h2);refine Ev.step (fun k=>by simp only [Y20.l0,hr];rw [if_pos (by omega),if_pos (by omega),if_pos (by omega)]) (Ev.bind (a4S u _ _ (by omega)) ?_)
  cases hk:dP u x.f0.f0 x.f0.f1 with
  | true =>
   have e:di (x :: s) u=di s u:=List.filter_cons_of_neg (by simp [hk]);rw [e] at hR;have ih:=a5c u nd n1 l jn hu hl s (i+1) h3 (by omega) acc (by omega) hR;refine aX rfl ?_;rw [w64 (by omega) (by omega)];exact ih
  | false =>
   have e:di (x :: s) u=x :: di s u:=List.filter_cons_of_pos (by simp [hk]);rw [e] at hR;have ih:=a5c u nd n1 l jn hu hl s (i+1) h3 (by omega) (acc ++ [x]) (by simp;omega) (by rw [List.append_assoc,List.singleton_append];exact hR);refine bG (by simp) (aX (by omega) ?_);rw [w64 (by omega) (by omega)];exact ih
theorem a7V (v:List Mark) (l:List Sib) (u:List Mark) (nd:Int) (t:ByteArray) (g:Bool) (hv:v.length≤1048576) (hl:l.length≤1048576) (hu:u.length≤1048576) (hz:¬ (u.length>400∨t.size>8000)) :
  Ev (fun k=>Y20.f k v l u nd t g) (cE v l u nd t g):=by
 have jI:eG v l u nd t g=false→Ev (fun k=>Y20.j0 k u nd t g true v l) (cE v l u nd t g):=fun h=>by
  (have e:cE v l u nd t g=([],[],0,0,1):=by unfold cE;rw [if_neg hz,if_neg (by simp [h])]);rw [e];exact Ev.step (f:=fun _=>some ([],[],0,0,1)) (fun k=>by simp [Y20.j0]) (Ev.now _)
 unfold Y20.f;refine Ev.bind (a0v v l (by omega) hl) ?_
 cases p1:cS v l with
 | false=>exact bG (by simp) (jI (by simp [eG,p1]))
 | true =>
  refine aX rfl (Ev.bind (a0T u (by omega)) ?_)
  cases p2:bX u with
  | false=>exact bG (by simp) (jI (by simp [eG,p2]))
  | true =>
   refine aX rfl (bp (a8J _) ?_)
   cases p3:isNode nd with
   | false=>exact bG (by simp) (jI (by simp [eG,p3]))
   | true =>
    refine aX rfl (bp (a8C _ _) ?_)
    cases p4:a1C t g with
    | false=>exact jI (by simp [eG,p4])
    | true =>
     (have h:eG v l u nd t g=true:=by simp [eG,p1,p2,p3,p4]);have hl8:=((cK v l).1 p1).2.1;have hn:=a3f ((cK v l).1 p1).1 p2 p3;have hj:=a0y v u;refine Ev.step (fun k=>by simp only [Y20.j0];rw [if_neg (by simp)]) (Ev.bind (a6o v u (by omega) (by omega)) (Ev.bind (a4m (bx v u) nd (by omega)) ?_));show Ev (fun k=>Y20.l0 k u (bx v u) l (l.length:Int) 0 nd (wrap64 (dR v u nd+1)) [⟨⟨nd,wrap64 (dR v u nd+1)⟩,g,t⟩]) _;rw [w64 (by omega) (by omega)];refine a5c u nd (dR v u nd+1) l (bx v u) hu hl8 l 0 rfl (by omega) [ff v u nd t g] (by simp;omega) ?_;have jF:Ev (fun k=>Y20.j2 k (bx v u) true nd (dR v u nd+1) ([ff v u nd t g] ++ di l u)) ([],[],0,0,9):=Ev.step (f:=fun _=>some ([],[],0,0,9)) (fun k=>by simp [Y20.j2]) (Ev.now _);have hr:=a5B l u;unfold cE;rw [if_neg hz,if_pos h];by_cases hf:dR v u nd≥1000000
     ·rw [if_pos hf];exact aX (by omega) jF
     ·rw [if_neg hf];refine bG (by omega) ?_;by_cases h8:(di l u).length+1>8
      ·rw [if_pos h8];have:decide ((([ff v u nd t g] ++ di l u).length:Int)>8)=true:=decide_eq_true (by simp;omega);rw [this];exact jF
      ·rw [if_neg h8];have:decide ((([ff v u nd t g] ++ di l u).length:Int)>8)=false:=decide_eq_false (by simp;omega);rw [this];have hs:a1W (di l u):=(a3q p1).sublist List.filter_sublist;have ha:=a6s p1 p2 p3 t g
       have e:(ff v u nd t g :: di l u).foldl a7e []=dD (di l u) (ff v u nd t g):=by
        rw [a7p _ [] List.Pairwise.nil (fun _ _ z hz=>by cases hz) (List.pairwise_cons.2 ⟨fun z hz=>(ha z hz).symm,hs.imp (fun h=>.inr h)⟩),List.foldl_cons];have:=a8L (ff v u nd t g) (di l u) [] hs ha;simpa using this
       refine Ev.step (fun k=>by simp only [Y20.j2];rw [if_neg (by simp)]) (Ev.bind (a6o (bx v u) _ (by omega) (by simp)) (Ev.bind (b1L (ff v u nd t g :: di l u) (by simp;omega)) ?_));rw [e];exact Ev.now _
theorem a7j (v:List Mark) (l:List Sib) (u:List Mark) (nd:Int) (t:ByteArray) (g:Bool) (hv:v.length≤1048576) (hl:l.length≤1048576) (hu:u.length≤1048576) :
  Ev (fun k=>Y55.f k v l u nd t g) (cE v l u nd t g):=by
 unfold Y55.f Y63.f
 have jT:(u.length>400∨t.size>8000)→Ev (fun k=>Y55.j0 k u nd t g true v l) (cE v l u nd t g):=fun hz=>by
  (have e:cE v l u nd t g=([],[],0,0,2):=by unfold cE;rw [if_pos hz]);rw [e];exact Ev.step (f:=fun _=>some ([],[],0,0,2)) (fun k=>by simp [Y55.j0]) (Ev.now _)
 refine bp rfl ?_;by_cases h4:u.length>400
 ·have:decide ((u.length:Int)>400)=true:=decide_eq_true (by omega);rw [this];exact aX rfl (jT (.inl h4))
 ·have:decide ((u.length:Int)>400)=false:=decide_eq_false (by omega);rw [this];refine bG (by simp) (Ev.bind (a3g t) ?_);by_cases h5:8000<t.size
  ·rw [decide_eq_true h5];exact jT (.inr h5)
  ·rw [decide_eq_false h5];exact Ev.step (fun k=>by simp only [Y55.j0];rw [if_neg (by simp)]) (Ev.bind (a7V v l u nd t g hv hl hu (by omega)) (Ev.now _))
abbrev a6X:=S26
def Ok3 (l:List a6X):Prop:=l.length=3∧∀ x ∈ l,x.f0.length≤5∧x.f1.length≤8
theorem rd3 {l:List a6X} (h:Ok3 l) (i:Int):(aC l i).f0.length≤5∧(aC l i).f1.length≤8:=by
 unfold aC;rw [List.getD_eq_getElem?_getD]
 cases e:l[i.toNat]? with
 | none=>exact ⟨Nat.zero_le _,Nat.zero_le _⟩
 | some x=>exact h.2 x (List.mem_of_getElem? e)
theorem set3 {l:List a6X} (h:Ok3 l) (i:Nat) (x:a6X) (h0:x.f0.length≤5) (h1:x.f1.length≤8):Ok3 (l.set i x):=by
 refine ⟨by rw [List.length_set];exact h.1,fun y hy=>?_⟩;rcases List.mem_or_eq_of_mem_set hy with hy | hy
 ·exact h.2 y hy
 ·subst hy;exact ⟨h0,h1⟩
theorem b2M {b:List Int} {a m z:Int} (h:dK b a m z) (l:List ByteArray) (h1:l.length=3):∃ t a' m',Y93.f b a m z l=some (t,a',m',z)∧dK b a' m' z:=by
 obtain ⟨r,a1,m1,e,r0,r1,_,g⟩:=fq h (l.length:Int) (by omega);have r1:=r1 (by omega);refine ⟨a3J ByteArray.empty l r,a1,m1,?_,g⟩;unfold Y93.f;rw [e];simp only [Option.bind_some];rw [if_pos r0,if_pos r1]
def Round (b:List Int) (z:Int) (f:Nat→Option (List a6X × Int × Int × Int)):Prop:=∃ l' a' m',Ev f (l',a',m',z)∧Ok3 l'∧dK b a' m' z
theorem Round.step {b:List Int} {z:Int} {f g:Nat→Option (List a6X × Int × Int × Int)} (h:Round b z f) (e:∀ k,g (k+1)=f k):Round b z g:=by
 obtain ⟨l',a',m',hf,h2,h3⟩:=h;exact ⟨l',a',m',Ev.step e hf,h2,h3⟩
theorem Round.bind {β:Type} {b:List Int} {z:Int} {g:Nat→Option β} {f:Nat→β→Option (List a6X × Int × Int × Int)} {r:β} (hg:Ev g r) (h:Round b z (fun k=>f k r)):Round b z (fun k=>(g k).bind (f k)):=by
 obtain ⟨l',a',m',hf,h2,h3⟩:=h;exact ⟨l',a',m',Ev.bind hg hf,h2,h3⟩
theorem Round.a6B {β:Type} {b:List Int} {z:Int} {g:Option β} {f:Nat→β→Option (List a6X × Int × Int × Int)} {r:β} (hg:g=some r) (h:Round b z (fun k=>f k r)):Round b z (fun k=>g.bind (f k)):=by
 subst hg;exact h
theorem Round.pos {c:Prop} [Decidable c] {b:List Int} {z:Int} {f g:Nat→Option (List a6X × Int × Int × Int)} (hc:c) (h:Round b z f):Round b z (fun k=>if c then f k else g k):=by
 simp only [if_pos hc];exact h
theorem Round.neg {c:Prop} [Decidable c] {b:List Int} {z:Int} {f g:Nat→Option (List a6X × Int × Int × Int)} (hc:¬ c) (h:Round b z g):Round b z (fun k=>if c then f k else g k):=by
 simp only [if_neg hc];exact h
theorem b2Z {b:List Int} {z:Int}:∀ (d:Nat),d≤8→∀ (l:List a6X) (a m:Int),Ok3 l→dK b a m z→Round b z (fun k=>Y4.l0 k l (d:Int) b a m z):=by
 intro d
 induction d with
 | zero =>
  intro _ l a m hl hs;refine ⟨l,a,m,Ev.step (f:=fun _=>some (l,a,m,z)) (fun k=>?_) (Ev.now _),hl,hs⟩;simp only [Y4.l0];rw [if_neg (by omega)]
 | succ d ih =>
  intro hd l a m hl hs;have hw:wrap64 (((d+1:Nat):Int)-1)=(d:Int):=by rw [w64 (by omega) (by omega)];omega
  have J3:∀ (i:Int) (a m:Int) (v:List Mark) (s:List Sib) (p q c:Int),0≤i→i<3→v.length≤5→s.length≤8→dK b a m z→Round b z (fun k=>Y4.j3 k l ((d+1:Nat):Int) i b a m z v s p q c):=by
   intro i a m v s p q c h0 h1 hv hs' g;by_cases hc:c=0
   ·refine Round.step (ih (by omega) (l.set i.toNat ⟨v,s⟩) a m (set3 hl _ _ hv hs') g) (fun k=>?_);simp only [Y4.j3,hw];rw [if_pos hc,if_pos h0,if_pos (by have:=hl.1;omega)]
   ·refine Round.step (ih (by omega) l a m hl g) (fun k=>?_);simp only [Y4.j3,hw];rw [if_neg hc]
  have J2:∀ (i:Int) (u:List Mark) (g:Bool) (t:ByteArray) (a m:Int),0≤i→i<3→u.length≤5→dK b a m z→Round b z (fun k=>Y4.j2 k l ((d+1:Nat):Int) i u g t b a m z):=by
   intro i u g t a m h0 h1 hu hs';have hr:=rd3 hl i;have e1:=a3P (aC l i).f0 (aC l i).f1 u (wrap64 (i+1)) t g (by omega) (by omega) (by omega);have b1:=a4M (aC l i).f0 (aC l i).f1 u (wrap64 (i+1)) t g;obtain ⟨q,a1,m1,e2,g1⟩:=a1Y hs' 3 (by omega);refine Round.step (f:=fun k=>if 0≤i then (if i<(l.length:Int) then _ else none) else none) ?_ (fun k=>by simp only [Y4.j2];rfl);refine Round.pos h0 (Round.pos (by have:=hl.1;omega) (Round.bind e1 (Round.a6B e2 ?_)))
   cases q with
   | true =>
    obtain ⟨j,a2,m2,e3,j0,j1,_,g2⟩:=fq g1 3 (by omega);have j1:=j1 (by omega);have hj:=rd3 hl j;have e4:=a6Q (aC l i).f0 (aC l i).f1 (aC l j).f0 (aC l j).f1 (by omega) (by omega) (by omega) (by omega);have b2:=a7x (aC l i).f0 (aC l i).f1 (aC l j).f0 (aC l j).f1;exact Round.pos rfl (Round.a6B e3 (Round.pos j0 (Round.pos (by have:=hl.1;omega) (Round.bind e4 (J3 i _ _ _ _ _ _ _ h0 h1 b2.1 b2.2 g2)))))
   | false=>exact Round.neg (by simp) (J3 i _ _ _ _ _ _ _ h0 h1 b1.1 b1.2 g1)
  have J1:∀ (i:Int) (u:List Mark) (a m:Int),0≤i→i<3→u.length≤5→dK b a m z→Round b z (fun k=>Y4.j1 k l ((d+1:Nat):Int) i u b a m z):=by
   intro i u a m h0 h1 hu hs';obtain ⟨g,a1,m1,e1,g1⟩:=a1Y hs' 5 (by omega);refine Round.step (f:=fun k=>(Y22.f b a m z 5).bind _) ?_ (fun k=>by simp only [Y4.j1];rfl);refine Round.a6B e1 ?_
   cases g with
   | true=>exact Round.pos rfl (J2 i u true _ _ _ h0 h1 hu g1)
   | false =>
    obtain ⟨t,a2,m2,e2,g2⟩:=b2M g1 (([(⟨#[97]⟩:ByteArray),(⟨#[98,98]⟩:ByteArray),(⟨#[]⟩:ByteArray)]:List ByteArray)) rfl;exact Round.neg (by simp) (Round.a6B e2 (J2 i u false _ _ _ h0 h1 hu g2))
  obtain ⟨i,a1,m1,e1,i0,i1,_,g1⟩:=fq hs 3 (by omega);have i1:=i1 (by omega);obtain ⟨t,a2,m2,e2,g2⟩:=a1Y g1 2 (by omega);refine Round.step (f:=fun k=>(Y2.f b a m z 3).bind _) ?_ (fun k=>by simp only [Y4.l0];rw [if_pos (by omega)]);refine Round.a6B e1 (Round.a6B e2 ?_)
  cases t with
  | true =>
   obtain ⟨j,a3,m3,e3,j0,j1,_,g3⟩:=fq g2 3 (by omega);have j1:=j1 (by omega);(have es:Y4.bz l j=some (aC l j).f0:=by unfold Y4.bz;rw [if_pos j0,if_pos (by have:=hl.1;omega)]);exact Round.pos rfl (Round.a6B e3 (Round.a6B es (J1 i _ _ _ i0 i1 (rd3 hl j).1 g3)))
  | false=>exact Round.neg (by simp) (J1 i _ _ _ i0 i1 (by simp) g2)
theorem a9W {b:List Int} {a m z:Int} (h:dK b a m z):∃ l a' m',Ev (fun k=>Y4.f k b a m z) (l,a',m',z)∧Ok3 l∧dK b a' m' z:=by
 obtain ⟨r,a1,m1,e,r0,r1,_,g⟩:=fq h 9 (by omega);have r1:=r1 (by omega);obtain ⟨d,rfl⟩:=Int.eq_ofNat_of_zero_le r0;obtain ⟨l,a2,m2,e2,h2,g2⟩:=b2Z d (by omega) (List.replicate 3 z26) a1 m1 ⟨by simp,fun x hx=>by rw [(List.mem_replicate.1 hx).2];exact ⟨Nat.zero_le _,Nat.zero_le _⟩⟩ g;exact ⟨l,a2,m2,aX (by omega) (bp e e2),h2,g2⟩
theorem b0M (b:List Int) (a m z:Int) (v:List Mark):∀ (d:Nat) (i:Int) (s:List Sib),i+d=9→s.length+d≤100→0≤i→∃ s',Ev (fun k=>Y1.l0 k i b a m z v s) (v,s',a,m,z)∧s'.length≤100:=by
 intro d
 induction d with
 | zero =>
  intro i s hi hs _;refine ⟨s,Ev.step (f:=fun _=>some (v,s,a,m,z)) (fun k=>?_) (Ev.now _),by omega⟩;simp only [Y1.l0];rw [if_neg (by omega)]
 | succ d ih =>
  intro i s hi hs h0;obtain ⟨s',e,h⟩:=ih (i+1) (s ++ [⟨⟨4,i⟩,false,⟨#[]⟩⟩]) (by omega) (by simp;omega) (by omega);refine ⟨s',Ev.step (fun k=>?_) e,h⟩;simp only [Y1.l0];rw [if_pos (by omega),if_pos (by omega),w64 (x:=i+1) (by omega) (by omega)]
theorem a5J {b:List Int} {z:Int} {a m:Int} (v:List Mark) (s:List Sib) (hv:v.length≤100) (hs:s.length≤100) (h:dK b a m z):∃ v' s' a' m',Ev (fun k=>Y1.j0 k b a m z v s) (v',s',a',m',z)∧v'.length≤100∧s'.length≤100∧dK b a' m' z:=by
 obtain ⟨t,a1,m1,e1,g1⟩:=a1Y h 25 (by omega)
 cases t with
 | true =>
  obtain ⟨s',e2,h2⟩:=b0M b a1 m1 z [⟨4,9⟩] 8 1 [] (by omega) (by simp) (by omega);refine ⟨[⟨4,9⟩],s',a1,m1,Ev.step (fun k=>?_) e2,by simp,h2,g1⟩;simp only [Y1.j0,e1,Option.bind_some];rw [if_pos trivial]
 | false =>
  refine ⟨v,s,a1,m1,Ev.step (f:=fun _=>some (v,s,a1,m1,z)) (fun k=>?_) (Ev.now _),hv,hs,g1⟩;simp only [Y1.j0,e1,Option.bind_some];rw [if_neg (by simp)]
theorem a3a {b:List Int} {a m z:Int} (h:dK b a m z):∃ v s a' m',Ev (fun k=>Y1.f k b a m z) (v,s,a',m',z)∧v.length≤100∧s.length≤100∧dK b a' m' z:=by
 obtain ⟨l,a1,m1,e1,hl,g1⟩:=a9W h;obtain ⟨i,a2,m2,e2,i0,i1,_,g2⟩:=fq g1 3 (by omega);have i1:=i1 (by omega);obtain ⟨t,a3,m3,e3,g3⟩:=a1Y g2 15 (by omega);have hr:=rd3 hl i
 have key:∃ v s a' m',Ev (fun k=>if t=true then ((Y2.f b a3 m3 z 4).bind fun E6=>(if E6.1=0 then ((Y17.f k b E6.2.1 E6.2.2.1 E6.2.2.2).bind fun AE8=>(Y1.j0 k b AE8.2.1 AE8.2.2.1 AE8.2.2.2 AE8.1 (aC l i).f1)) else (if E6.1=1 then ((Y53.f b E6.2.1 E6.2.2.1 E6.2.2.2).bind fun S8=>(if (aC l i).f1.length<3518437208883 then (Y1.j0 k b S8.2.2.1 S8.2.2.2.1 S8.2.2.2.2 (aC l i).f0 ((aC l i).f1 ++ [(⟨(⟨S8.1,S8.2.1⟩:Mark),false,(⟨#[120]⟩:ByteArray)⟩:Sib)])) else (none))) else (if E6.1=2 then (if ((aC l i).f1.length:Int)>0 then (if 0<((aC l i).f1.length:Int) then (Y1.j0 k b E6.2.1 E6.2.2.1 E6.2.2.2 (aC l i).f0 ((aC l i).f1.set (0:Int).toNat (⟨(⟨(aa (aC l i).f1 0).f0.f0,(aa (aC l i).f1 0).f0.f1⟩:Mark),!((aa (aC l i).f1 0).f1),(aa (aC l i).f1 0).f2⟩:Sib))) else (none)) else (Y1.j0 k b E6.2.1 E6.2.2.1 E6.2.2.2 (aC l i).f0 (aC l i).f1)) else (if ((aC l i).f1.length:Int)>0 then ((Y2.f b E6.2.1 E6.2.2.1 E6.2.2.2 3).bind fun X7=>(if 0≤(wrap64 (15+X7.1)) then (if (wrap64 (15+X7.1):Int).toNat≤281474976710656 then (if 0<((aC l i).f1.length:Int) then (Y1.j0 k b X7.2.1 X7.2.2.1 X7.2.2.2 (aC l i).f0 ((aC l i).f1.set (0:Int).toNat (⟨(⟨(aa (aC l i).f1 0).f0.f0,(aa (aC l i).f1 0).f0.f1⟩:Mark),(aa (aC l i).f1 0).f1,strOfNums (List.replicate (wrap64 (15+X7.1):Int).toNat 0)⟩:Sib))) else (none)) else (none)) else (none))) else (Y1.j0 k b E6.2.1 E6.2.2.1 E6.2.2.2 (aC l i).f0 (aC l i).f1)))))) else (Y1.j0 k b a3 m3 z (aC l i).f0 (aC l i).f1)) (v,s,a',m',z)∧v.length≤100∧s.length≤100∧dK b a' m' z:=by
  cases t with
  | false =>
   obtain ⟨v,s,a4,m4,e,hv,hs,g⟩:=a5J (aC l i).f0 (aC l i).f1 (by omega) (by omega) g3;exact ⟨v,s,a4,m4,bG (by simp) e,hv,hs,g⟩
  | true =>
   obtain ⟨c,a4,m4,e4,c0,c1,_,g4⟩:=fq g3 4 (by omega);by_cases h0:c=0
   ·obtain ⟨u,a5,m5,e5,hu,g5⟩:=a7P g4;obtain ⟨v,s,a6,m6,e,hv,hs,g⟩:=a5J u (aC l i).f1 (by omega) (by omega) g5;exact ⟨v,s,a6,m6,aX rfl (bp e4 (aX h0 (Ev.bind e5 e))),hv,hs,g⟩
   by_cases h1:c=1
   ·obtain ⟨x,y,a5,m5,e5,g5⟩:=a4r g4;obtain ⟨v,s,a6,m6,e,hv,hs,g⟩:=a5J (aC l i).f0 ((aC l i).f1 ++ [(⟨(⟨x,y⟩:Mark),false,(⟨#[120]⟩:ByteArray)⟩:Sib)]) (by omega) (by simp;omega) g5;exact ⟨v,s,a6,m6,aX rfl (bp e4 (bG h0 (aX h1 (bp e5 (aX (by omega) e))))),hv,hs,g⟩
   by_cases hn:((aC l i).f1.length:Int)>0
   ·by_cases h2:c=2
    ·obtain ⟨v,s,a6,m6,e,hv,hs,g⟩:=a5J (aC l i).f0 ((aC l i).f1.set (0:Int).toNat (⟨(⟨(aa (aC l i).f1 0).f0.f0,(aa (aC l i).f1 0).f0.f1⟩:Mark),!((aa (aC l i).f1 0).f1),(aa (aC l i).f1 0).f2⟩:Sib)) (by omega) (by rw [List.length_set];omega) g4;exact ⟨v,s,a6,m6,aX rfl (bp e4 (bG h0 (bG h1 (aX h2 (aX hn (aX hn e)))))),hv,hs,g⟩
    ·obtain ⟨n,a5,m5,e5,n0,n1,_,g5⟩:=fq g4 3 (by omega);have n1:=n1 (by omega);have hw:wrap64 (15+n)=15+n:=w64 (by omega) (by omega);obtain ⟨v,s,a6,m6,e,hv,hs,g⟩:=a5J (aC l i).f0 ((aC l i).f1.set (0:Int).toNat (⟨(⟨(aa (aC l i).f1 0).f0.f0,(aa (aC l i).f1 0).f0.f1⟩:Mark),(aa (aC l i).f1 0).f1,strOfNums (List.replicate (wrap64 (15+n):Int).toNat 0)⟩:Sib)) (by omega) (by rw [List.length_set];omega) g5;exact ⟨v,s,a6,m6,aX rfl (bp e4 (bG h0 (bG h1 (bG h2 (aX hn (bp e5 (aX (show 0≤wrap64 (15+n) by rw [hw];omega) (aX (show (wrap64 (15+n):Int).toNat≤281474976710656 by rw [hw];omega) (aX hn e))))))))),hv,hs,g⟩
   ·obtain ⟨v,s,a6,m6,e,hv,hs,g⟩:=a5J (aC l i).f0 (aC l i).f1 (by omega) (by omega) g4;refine ⟨v,s,a6,m6,aX rfl (bp e4 (bG h0 (bG h1 ?_))),hv,hs,g⟩;by_cases h2:c=2
    ·exact aX h2 (bG hn e)
    ·exact bG h2 (bG hn e)
 obtain ⟨v,s,a4,m4,e,hv,hs,g⟩:=key;exact ⟨v,s,a4,m4,Ev.bind e1 (bp e2 (aX i0 (aX (show i<(l.length:Int) by have:=hl.1;omega) (bp e3 e)))),hv,hs,g⟩
def a2i (f:Int→Int):Nat→Int→List Mark
 | 0,_=>[]
 | k+1,n=>(if f n>0 then [⟨n,f n⟩] else []) ++ a2i f k (n+1)
theorem a6k (a b:List Mark):∀ (k:Nat) (n:Int),a0w a b k n=a2i (fun n=>mx (bz a n) (bz b n)) k n
 | 0,_=>rfl
 | k+1,n=>by simp only [a0w,a2i,a6k a b k (n+1)]
theorem a6r (a b:List Mark):bx a b=a2i (fun n=>mx (bz a n) (bz b n)) 5 1:=a6k a b 5 1
theorem a4I (a b:List Mark) (n:Int) (h:∀ m ∈ a,m.f0≠n):bz (a ++ b) n=bz b n:=by
 induction a with
 | nil=>rfl
 | cons m r ih =>
  rw [List.cons_append,bz,if_neg (h m List.mem_cons_self)];exact ih (fun x hx=>h x (List.mem_cons_of_mem _ hx))
theorem a7n {f:Int→Int}:∀ (k:Nat) (n:Int),∀ m ∈ a2i f k n,n≤m.f0∧m.f0<n+k∧m.f1=f m.f0∧0<m.f1
 | 0,_,m,hm=>by simp [a2i] at hm
 | k+1,n,m,hm=>by
  simp only [a2i,List.mem_append] at hm;rcases hm with hm | hm
  ·split at hm
   ·simp only [List.mem_singleton] at hm;subst hm;exact ⟨by simp,by simp;omega,rfl,by assumption⟩
   ·simp at hm
  ·have:=a7n k (n+1) m hm;exact ⟨by omega,by omega,this.2.2⟩
theorem a9P (l:List Mark) (n:Int) (h:∀ m ∈ l,m.f0≠n):bz l n=0:=by
 have:=a4I l [] n h;rwa [List.append_nil] at this
theorem a8N {f:Int→Int}:∀ (k:Nat) (n m:Int),n≤m→m<n+k→bz (a2i f k n) m=if f m>0 then f m else 0
 | 0,_,_,h1,h2=>by omega
 | k+1,n,m,h1,h2=>by
  simp only [a2i];by_cases hm:m=n
  ·subst hm;by_cases hf:f m>0
   ·rw [if_pos hf,if_pos hf,List.cons_append,bz,if_pos rfl]
   ·rw [if_neg hf,if_neg hf,List.nil_append];exact a9P _ _ (fun x hx=>by have:=(a7n k (m+1) x hx).1;omega)
  ·rw [a4I _ _ _ (fun x hx=>by
    split at hx
    ·simp only [List.mem_singleton] at hx;subst hx;exact fun e=>hm e.symm
    ·simp at hx)]
   exact a8N k (n+1) m (by omega) (by omega)
theorem a8O {f:Int→Int}:∀ (k:Nat) (n p:Int),1≤n→n+k≤6→p<n→(∀ m,n≤m→m<n+k→f m≤1000000)→dQ p (a2i f k n)=true
 | 0,_,_,_,_,_,_=>rfl
 | k+1,n,p,h1,h2,h3,h4=>by
  (have ih:=fun q hq=>a8O (f:=f) k (n+1) q (by omega) (by omega) hq (fun m a b=>h4 m (by omega) (by omega)));simp only [a2i];by_cases hf:f n>0
  ·rw [if_pos hf,List.cons_append,List.nil_append];simp only [dQ,Bool.and_eq_true,decide_eq_true_eq,a1B];exact ⟨⟨by omega,by have:=h4 n (by omega) (by omega);omega⟩,h3,ih n (by omega)⟩
  ·rw [if_neg hf,List.nil_append];exact ih p (by omega)
theorem a2W {v:List Mark} (h:bX v=true) (n:Int):0≤bz v n∧bz v n≤1000000∧(¬ (1≤n∧n≤5)→bz v n=0):=by
 have key:∀ (l:List Mark) (p:Int),dQ p l=true→0≤bz l n∧bz l n≤1000000∧(¬ (1≤n∧n≤5)→bz l n=0):=by
  intro l
  induction l with
  | nil=>intro p _;exact ⟨Int.le_refl _,by show (0:Int)≤1000000;omega,fun _=>rfl⟩
  | cons m r ih =>
   intro p ho;simp only [dQ,Bool.and_eq_true,decide_eq_true_eq,a1B] at ho;simp only [bz];split
   ·rename_i e;exact ⟨by omega,by omega,fun hn=>by omega⟩
   ·exact ih m.f0 ho.2.2
 exact key v 0 h
theorem b5O {a b c:Int} (h1:a≤c) (h2:b≤c):mx a b≤c:=by unfold mx;split <;> omega
theorem b5I (a b:Int):a≤mx a b∧b≤mx a b:=by unfold mx;split <;> omega
theorem a6U {a b:List Mark} (ha:bX a=true) (hb:bX b=true):bX (bx a b)=true:=by
 rw [a6r];exact a8O 5 1 0 (by omega) (by omega) (by omega) (fun m _ _=>b5O (a2W ha m).2.1 (a2W hb m).2.1)
theorem b1u {a b:List Mark} (ha:bX a=true) (hb:bX b=true) (n:Int):bz (bx a b) n=mx (bz a n) (bz b n):=by
 by_cases h:1≤n∧n≤5
 ·rw [a6r,a8N 5 1 n h.1 (by omega)];have h1:=(a2W ha n).1;have:=(b5I (bz a n) (bz b n)).1;split
  ·rfl
  ·omega
 ·rw [(a2W (a6U ha hb) n).2.2 h,(a2W ha n).2.2 h,(a2W hb n).2.2 h];rfl
theorem a9Z (x:Sib) (p:List Sib):∀ z,z=x∨z ∈ p→z ∈ dD p x:=by
 induction p with
 | nil=>intro z h;simpa [dD] using h
 | cons y p ih =>
  intro z h;simp only [dD];split
  ·rcases h with h | h
   ·exact List.mem_cons_of_mem _ (ih z (.inl h))
   ·rcases List.mem_cons.1 h with e | h
    ·rw [e];exact List.mem_cons_self ..
    ·exact List.mem_cons_of_mem _ (ih z (.inr h))
  ·rcases h with h | h
   ·rw [h];exact List.mem_cons_self ..
   ·exact List.mem_cons_of_mem _ h
def same (x y:Sib):Prop:=x.f0.f0=y.f0.f0∧x.f0.f1=y.f0.f1
theorem b0E (l:List Sib):a1W l→∀ x ∈ l,∀ y ∈ l,same x y→x=y:=by
 induction l with
 | nil=>intro _ x hx;cases hx
 | cons a l ih =>
  intro hs x hx y hy he;obtain ⟨h1,h2⟩:=List.pairwise_cons.1 hs;unfold same at he;rcases List.mem_cons.1 hx with ex | hx
  ·rcases List.mem_cons.1 hy with ey | hy
   ·rw [ex,ey]
   ·have:=h1 y hy;rw [a4j,← ex] at this;omega
  ·rcases List.mem_cons.1 hy with ey | hy
   ·have:=h1 x hx;rw [a4j,← ey] at this;omega
   ·exact ih h2 x hx y hy he
theorem b2F {l:List Sib} {x:Sib}:eL x.f0.f0 x.f0.f1 0 l≥0 ↔ ∃ z ∈ l,same z x:=by
 constructor
 ·intro h;by_cases hc:∃ z ∈ l,same z x
  ·exact hc
  ·exfalso
   have key:∀ (l:List Sib) (i:Int),(∀ z ∈ l,¬ same z x)→eL x.f0.f0 x.f0.f1 i l = -1:=by
    intro l
    induction l with
    | nil=>intro i _;rfl
    | cons y l ih =>
     intro i hn;have hy:=hn y (List.mem_cons_self ..);simp only [eL];rw [if_neg (by unfold same at hy;simp only [b0B,Bool.and_eq_true,beq_iff_eq];exact hy)];exact ih (i+1) (fun z hz=>hn z (List.mem_cons_of_mem _ hz))
   have:=key l 0 (fun z hz hs=>hc ⟨z,hz,hs⟩);omega
 ·rintro ⟨z,hz,hs⟩;by_cases hn:eL x.f0.f0 x.f0.f1 0 l<0
  ·exact absurd hs (a7T _ _ l 0 (by omega) hn z hz)
  ·omega
theorem b2P {v:List Mark} {l:List Sib} (h:cS v l=true):∀ x ∈ l,a1Z v x=true:=a1t v l none ((cK v l).1 h).2.2
theorem b3M {v:List Mark} {l:List Sib} (h:cS v l=true):∀ x ∈ l,dP v x.f0.f0 x.f0.f1=true:=fun x hx=>by
 have:=b2P h x hx
 simp only [a1Z,Bool.and_eq_true] at this
 exact this.2.1
section
variable {va vb:List Mark} {la lb:List Sib} (ha:cS va la=true) (hb:cS vb lb=true)
include ha hb
end
theorem b5Q {s:ByteArray} {i:Nat} {c:Int} (h:(bytesOf s).getD i 0=c):bt s (i:Int)=c:=by
 rw [← b1e];simpa [rd] using h
theorem a9t (k:IntKind) (j:Nat) (hj:j≤k.bits) (hk:∀ n:Int,0≤n→n<2 ^ j→k.wrap n=n) (a b:Nat) (ha:a<2 ^ j) (hb:b<2 ^ j):bits .xor k a b=((a ^^^ b:Nat):Int):=by
 have hp:2 ^ j≤2 ^ k.bits:=Nat.pow_le_pow_right (by decide) hj;have ha':a % 2 ^ k.bits=a:=Nat.mod_eq_of_lt (Nat.lt_of_lt_of_le ha hp);have hb':b % 2 ^ k.bits=b:=Nat.mod_eq_of_lt (Nat.lt_of_lt_of_le hb hp);simp only [bits,BitVec.ofInt_natCast,BitVec.toNat_xor,BitVec.toNat_ofNat,ha',hb'];exact hk _ (Int.natCast_nonneg _) (by exact_mod_cast Nat.xor_lt_two_pow ha hb)
def a3v (u:Int):Int:=if u % 2=1 then -(u / 2)-1 else u / 2
def dZ:Nat→List Int→Int→Int→Int→Int × Int × Int
 | 0,_,_,_,_=>(0,0,3)
 | _+1,[],_,_,_=>(0,0,4)
 | f+1,c :: r,u,p,w =>
  if f=0∧c>1 then (0,0,3)
  else if c<128 then (if c=0∧f<9 then (0,0,3) else (a3v (u+c % 128*w),p+1,0))
  else dZ f r (u+c % 128*w) (p+1) (w*128)
def cC (s:ByteArray) (at_:Int):Int × Int × Int :=
 if 8000<s.size then (0,0,2) else if at_<0 then (0,0,1) else dZ 10 ((bytesOf s).drop at_.toNat) 0 at_ 1
theorem a6e {b:Int} (hb:1≤b) {i j:Nat} (h:i≤j):b ^ i≤b ^ j:=by
 induction h with
 | refl=>exact Int.le_refl _
 | step h ih =>
  rw [Int.pow_succ];have h0:0≤b ^ i:=Int.le_of_lt (Int.pow_pos (by omega));have h1:=Int.mul_le_mul_of_nonneg_left hb (Int.le_trans h0 ih);omega
theorem a9i (k:IntKind) (a b:Int):Go.bits .or k a b=Go.bits .or k b a:=by
 simp only [bits,BitVec.or_comm]
theorem b0W {i:Nat} (hi:i≤9) {x y:Int} (hx:0≤x) (hx':x<2 ^ (7*i)) (hy:0≤y) (hy':y % 2 ^ (7*i)=0) (hy2:y<18446744073709551616):Go.bits .or .u64 x y=x+y:=by
 have hp:(2:Int) ^ (7*i)≤2 ^ 63:=a6e (by omega) (by omega);rw [a9i,bits_join .u64 64 (by decide) a5K (7*i) y x hy hy' (by omega) hx hx' (by omega)];omega
theorem a9y {x:Int} (h0:0≤x) (h1:x<9223372036854775808):Go.bits .xor .i64 x 0=x:=by
 obtain ⟨a,rfl⟩:=Int.eq_ofNat_of_zero_le h0;have:=a9t .i64 63 (by decide) b1S a 0 (by omega) (by omega);simpa using this
theorem a9o {x:Int} (h0:0≤x) (h1:x<9223372036854775808):Go.bits .xor .i64 x (-1) = -x-1:=by
 obtain ⟨a,rfl⟩:=Int.eq_ofNat_of_zero_le h0;(have ha:a<2 ^ 64:=by omega);have hw:IntKind.bits .i64=64:=rfl;simp only [bits];rw [BitVec.ofInt_natCast];(have h2:(BitVec.ofInt (IntKind.bits .i64) (-1))=BitVec.allOnes _:=by decide);rw [h2,BitVec.xor_allOnes,BitVec.toNat_not,BitVec.toNat_ofNat,hw,Nat.mod_eq_of_lt ha,IntKind.wrap_i64];omega
theorem b2r {x:Int} (h₀:0≤x) (h₁:x<18446744073709551616):Go.bits .and .u64 x 1=x % 2:=bits_mask .u64 64 (by decide) a5K 1 (by decide) x h₀ h₁
theorem b1J {x:Int} (h₀:0≤x) (h₁:x<256):Go.bits .and .u8 x 127=x % 128:=bits_mask .u8 8 (by decide) wraps_u8 7 (by decide) x h₀ h₁
theorem b0U (i:Nat):(2:Int) ^ (7*i)=128 ^ i:=by rw [Int.pow_mul];rfl
theorem b0N (i:Nat):0<(128:Int) ^ i:=Int.pow_pos (by omega)
theorem a8t {i j:Nat} (h:i≤j):(128:Int) ^ i≤128 ^ j:=a6e (by omega) h
theorem a5L {i:Nat} (hi:i≤9) {u c:Int} (hu0:0≤u) (hu:u<128 ^ i) (hc0:0≤c) (hc:c<256) (h9:i=9→c≤1) :
  0≤c % 128*128 ^ i∧c % 128*128 ^ i<18446744073709551616∧u+c % 128*128 ^ i<18446744073709551616∧(i<9→u+c % 128*128 ^ i<128 ^ (i+1)):=by
 have hp:=b0N i;have h0:0≤c % 128*128 ^ i:=Int.mul_nonneg (by omega) (by omega);rcases Nat.lt_or_ge i 9 with h | h
 ·have h1:c % 128*128 ^ i≤127*128 ^ i:=Int.mul_le_mul_of_nonneg_right (by omega) (by omega);have h2:(128:Int) ^ i≤128 ^ 8:=a8t (by omega);have h3:(128:Int) ^ (i+1)=128 ^ i*128:=Int.pow_succ _ _;refine ⟨h0,by omega,by omega,fun _=>by omega⟩
 ·(obtain rfl:i=9:=by omega);have h1:c % 128*128 ^ 9≤1*128 ^ 9:=Int.mul_le_mul_of_nonneg_right (by have:=h9 rfl;omega) (by omega);refine ⟨h0,by omega,by omega,fun h=>by omega⟩
theorem b2S {i:Nat} (hi:i≤9) {u c:Int} (hu0:0≤u) (hu:u<128 ^ i) (hc0:0≤c) (hc:c<256) (h9:i=9→c≤1):shl .u64 (c % 128) (7*(i:Int))=c % 128*128 ^ i:=by
 have h:=a5L hi hu0 hu hc0 hc h9;unfold shl;rw [show min (7*(i:Int)).toNat (IntKind.bits .u64)=7*i from by simp only [IntKind.bits];omega,b0U,fA];omega
theorem a6d:∀ (f:Nat) (bs:List Int) (u p w:Int),0≤p→∀ n q c,dZ f bs u p w=(n,q,c)→c=0→p+1≤q∧q≤p+bs.length
 | 0,_,_,_,_,_,_,_,_,h,hc=>by simp [dZ] at h;omega
 | _+1,[],_,_,_,_,_,_,_,h,hc=>by simp [dZ] at h;omega
 | f+1,c :: r,u,p,w,hp,n,q,d,h,hd=>by
  simp only [dZ] at h;split at h
  ·simp at h;omega
  ·split at h
   ·split at h
    ·simp at h;omega
    ·simp at h;simp;omega
   ·have:=a6d f r _ (p+1) _ (by omega) n q d h hd;simp;omega
theorem b1s {s:ByteArray} {j:Nat} {c:Int} {r:List Int} (h:(bytesOf s).drop j=c :: r):j<s.size∧bt s (j:Int)=c∧(bytesOf s).drop (j+1)=r∧0≤c∧c<256:=by
 obtain ⟨g1,g2,g3⟩:=cX h 0;rw [bg] at g1;have hb:=b5Q g2;have hr:=b3j s (j:Int);rw [hb] at hr;exact ⟨g1,hb,g3,hr.1,by omega⟩
theorem a4G {s:ByteArray} {j:Nat} (h:(bytesOf s).drop j=[]):s.size≤j:=by
 have:=a9x h;rwa [bg] at this
theorem a9u {k:Nat} {x1 u:Int} {i:Nat} (hu0:0≤u) (hu:u<18446744073709551616) (h1:0≤x1+i) (h2:x1+i<9000) :
  Y15.j2 (k+1) x1 u (i:Int) false=some (a3v u,x1+i+1,0):=by
 simp only [Y15.j2];rw [if_neg (by simp)]
 rw [Int.tmod_eq_emod_of_nonneg hu0,Int.tdiv_eq_ediv_of_nonneg hu0,fA,w64 (x:=x1+i) (by omega) (by omega),w64 (x:=x1+i+1) (by omega) (by omega),show u / 2 % 18446744073709551616=u / 2 from by omega,
  w64 (x:=u / 2) (by omega) (by omega),w64 (x := -(u / 2)) (by omega) (by omega),w64 (x := -(u / 2)-1) (by omega) (by omega)]
 unfold a3v;split <;> rfl
theorem a6c (s:ByteArray) (hs:s.size≤8000) (x1:Int) (hx:0≤x1) (hx2:x1≤9223372036854775807):∀ (f i:Nat),f+i=10→∀ (bs:List Int),(bytesOf s).drop (x1.toNat+i)=bs→∀ u:Int,0≤u→u<128 ^ i →
  Ev (fun k=>Y15.l0 k s x1 u (i:Int)) (dZ f bs u (x1+i) (128 ^ i))
 | 0,i,hf,bs,hb,u,hu0,hu=>by
  refine Ev.step (f:=fun _=>some (0,0,3)) (fun k=>?_) (by simp only [dZ];exact Ev.now _);simp only [Y15.l0];rw [if_neg (by omega)]
 | f+1,i,hf,[],hb,u,hu0,hu=>by
  have:=a4G hb;refine Ev.step (f:=fun _=>some (0,0,4)) (fun k=>?_) (by simp only [dZ];exact Ev.now _);simp only [Y15.l0];rw [if_pos (by omega),w64 (by omega) (by omega),if_pos (by omega)]
 | f+1,i,hf,c :: r,hb,u,hu0,hu=>by
  obtain ⟨g1,g2,g3,g4,g5⟩:=b1s hb;have ex:x1+i=((x1.toNat+i:Nat):Int):=by omega
  have hl0:∀ k,Y15.l0 (k+1) s x1 u (i:Int)=Y15.j1 k s x1 u (i:Int) c (decide (i=9∧c>1)):=fun k=>by
   simp only [Y15.l0];rw [if_pos (by omega),w64 (x:=(s.size:Int)-i) (by omega) (by omega),if_neg (by omega),w64 (x:=x1+i) (by omega) (by omega),if_pos (by omega),if_pos (by omega),ex,g2,fA,show c % 18446744073709551616=c from by omega];by_cases h9:i=9
   ·subst h9;rw [if_pos (by omega)];simp
   ·rw [if_neg (by omega)];simp [h9]
  by_cases hbad:i=9∧c>1
  ·refine Ev.step hl0 (Ev.step (f:=fun _=>some (0,0,3)) (fun k=>?_) ?_)
   ·simp only [hbad,Y15.j1];simp
   ·(have hf0:f=0:=by omega);simp only [dZ,hf0,hbad.2,and_self,if_true];exact Ev.now _
  ·(have h9:i=9→c≤1:=fun e=>by omega);have hsum:=a5L (by omega) hu0 hu g4 g5 h9;have hsh:=b2S (by omega) hu0 hu g4 g5 h9
   have hj1:∀ k,Y15.j1 (k+1) s x1 u (i:Int) c (decide (i=9∧c>1))=if c<128 then Y15.j2 k x1 (u+c % 128*128 ^ i) (i:Int) (decide (c=0∧(i:Int)>0)) else Y15.l0 k s x1 (u+c % 128*128 ^ i) ((i+1:Nat):Int):=fun k=>by
    simp only [hbad,decide_false,Y15.j1]
    rw [if_neg (by simp),w64 (x:=7*(i:Int)) (by omega) (by omega),fA,show 7*(i:Int) % 18446744073709551616=7*(i:Int) from by omega,if_pos (by omega),Int.tmod_eq_emod_of_nonneg g4,hsh,fA,
     show (u+c % 128*128 ^ i) % 18446744073709551616=u+c % 128*128 ^ i from by omega,w64 (x:=(i:Int)+1) (by omega) (by omega)]
    by_cases hc:c<128
    ·rw [if_pos hc,if_pos hc];by_cases h0:c=0
     ·rw [if_pos h0];simp [h0]
     ·rw [if_neg h0];simp [h0]
    ·rw [if_neg hc,if_neg hc];rfl
   refine Ev.step hl0 (Ev.step hj1 ?_);(have hng:¬ (f=0∧c>1):=fun e=>hbad ⟨by omega,e.2⟩);simp only [dZ,if_neg hng];refine ez (fun hc=>?_) (fun hc=>?_)
   ·rw [if_pos hc];by_cases h0:c=0∧(i:Int)>0
    ·rw [if_pos (by omega)];refine Ev.step (f:=fun _=>some (0,0,3)) (fun k=>?_) (Ev.now _);simp only [h0,Y15.j2];simp
    ·rw [if_neg (by omega)];refine Ev.step (f:=fun _=>_) (fun k=>?_) (Ev.now _);simp only [h0,decide_false];exact a9u (by omega) (by omega) (by omega) (by omega)
   ·rw [if_neg hc]
    have h8:i<9:=by
     rcases Nat.lt_or_ge i 9 with h | h
     ·exact h
     ·have:=h9 (by omega);omega
    have ih:=a6c s hs x1 hx hx2 f (i+1) (by omega) r (by rw [← g3];congr 1) (u+c % 128*128 ^ i) (by omega) (hsum.2.2.2 h8);rw [show x1+((i+1:Nat):Int)=x1+i+1 from by omega,Int.pow_succ] at ih;exact ih
theorem a3Y (s:ByteArray) (x1:Int) (h1 : -9223372036854775808≤x1) (h2:x1≤9223372036854775807):Ev (fun k=>Y15.f k s x1) (cC s x1):=by
 unfold Y15.f cC;by_cases h:8000<s.size
 ·rw [if_pos h];exact aX (by omega) (Ev.now _)
 ·rw [if_neg h];refine bG (by omega) ?_;by_cases h0:x1<0
  ·rw [if_pos h0];exact aX h0 (Ev.now _)
  ·rw [if_neg h0];refine bG h0 ?_;have:=a6c s (by omega) x1 (by omega) h2 10 0 rfl _ rfl 0 (by omega) (by simp);simpa using this
theorem a9q {x1 u:Int} {i:Nat} (hu0:0≤u) (hu:u<18446744073709551616) (h1:0≤x1+i) (h2:x1+i<9000) :
  (Go.bits .xor .i64 (wrap64 (u / 2)) (wrap64 (-(wrap64 (Go.bits .and .u64 u 1)))),wrap64 ((wrap64 (x1+i))+1),(0:Int))=(a3v u,x1+i+1,0):=by
 rw [b2r hu0 hu,w64 (x:=x1+i) (by omega) (by omega),w64 (x:=x1+i+1) (by omega) (by omega),w64 (x:=u / 2) (by omega) (by omega),w64 (x:=u % 2) (by omega) (by omega),w64 (x := -(u % 2)) (by omega) (by omega)];unfold a3v;split
 ·rename_i h;rw [h,a9o (by omega) (by omega)]
 ·rename_i h;rw [show -(u % 2)=0 from by omega,a9y (by omega) (by omega)]
theorem a6l (s:ByteArray) (hs:s.size≤8000) (x1:Int) (hx:0≤x1) (hx2:x1≤9223372036854775807):∀ (f i:Nat),f+i=10→∀ (bs:List Int),(bytesOf s).drop (x1.toNat+i)=bs→∀ u:Int,0≤u→u<128 ^ i →
  Ev (fun k=>Y16.l0 k s x1 u (i:Int)) (dZ f bs u (x1+i) (128 ^ i))
 | 0,i,hf,bs,hb,u,hu0,hu=>by
  refine Ev.step (f:=fun _=>some (0,0,3)) (fun k=>?_) (by simp only [dZ];exact Ev.now _);simp only [Y16.l0];rw [if_neg (by omega)]
 | f+1,i,hf,[],hb,u,hu0,hu=>by
  have:=a4G hb;refine Ev.step (f:=fun k=>Y16.j1 k s x1 u (i:Int) (i:Int) true) (fun k=>?_) (Ev.step (f:=fun _=>some (0,0,4)) (fun k=>?_) (by simp only [dZ];exact Ev.now _))
  ·simp only [Y16.l0,Y71.f,Option.bind_some];rw [if_pos (by omega)];by_cases h:x1≥(s.size:Int)
   ·rw [if_pos h]
   ·rw [if_neg h,w64 (x:=(s.size:Int)-x1) (by omega) (by omega)];congr 1;simp;omega
  ·simp [Y16.j1]
 | f+1,i,hf,c :: r,hb,u,hu0,hu=>by
  obtain ⟨g1,g2,g3,g4,g5⟩:=b1s hb;have ex:x1+i=((x1.toNat+i:Nat):Int):=by omega
  have hl0:∀ k,Y16.l0 (k+1) s x1 u (i:Int)=Y16.j1 k s x1 u (i:Int) (i:Int) false:=fun k=>by
   simp only [Y16.l0,Y71.f,Option.bind_some];rw [if_pos (by omega),if_neg (by omega),w64 (x:=(s.size:Int)-x1) (by omega) (by omega)];congr 1;simp;omega
  have hj1:∀ k,Y16.j1 (k+1) s x1 u (i:Int) (i:Int) false=Y16.j2 k s x1 u (i:Int) c (i:Int) (decide (i=9∧c>1)):=fun k=>by
   simp only [Y16.j1];rw [if_neg (by simp),w64 (x:=x1+i) (by omega) (by omega),if_pos (by omega),if_pos (by omega),ex,g2];by_cases h9:i=9
   ·subst h9;rw [if_pos (by omega)];simp
   ·rw [if_neg (by omega)];simp [h9]
  refine Ev.step hl0 (Ev.step hj1 ?_);by_cases hbad:i=9∧c>1
  ·refine Ev.step (f:=fun _=>some (0,0,3)) (fun k=>?_) ?_
   ·simp only [hbad,Y16.j2];simp
   ·(have hf0:f=0:=by omega);simp only [dZ,hf0,hbad.2,and_self,if_true];exact Ev.now _
  ·(have h9:i=9→c≤1:=fun e=>by omega);have hsum:=a5L (by omega) hu0 hu g4 g5 h9;have hsh:=b2S (by omega) hu0 hu g4 g5 h9;(have hmod:c % 128*128 ^ i % 2 ^ (7*i)=0:=by rw [b0U];exact Int.mul_emod_left _ _);have hor:=b0W (i:=i) (by omega) hu0 (by rw [b0U];exact hu) hsum.1 hmod hsum.2.1
   have hj2:∀ k,Y16.j2 (k+1) s x1 u (i:Int) c (i:Int) (decide (i=9∧c>1))=if c<128 then (if c=0∧(i:Int)>0 then some (0,0,3) else some (a3v (u+c % 128*128 ^ i),x1+i+1,0)) else Y16.l0 k s x1 (u+c % 128*128 ^ i) ((i+1:Nat):Int):=fun k=>by
    simp only [hbad,decide_false,Y16.j2]
    rw [if_neg (by simp),fA,fA,show (i:Int) % 18446744073709551616=i from by omega,show 7*(i:Int) % 18446744073709551616=7*(i:Int) from by omega,if_pos (by omega),b1J g4 g5,fA,show c % 128 % 18446744073709551616=c % 128 from by omega,hsh,hor,
     w64 (x:=(i:Int)+1) (by omega) (by omega),a9q (by omega) (by omega) (by omega) (by omega)]
    by_cases hc:c<128
    ·rw [if_pos hc,if_pos hc];by_cases h0:c=0
     ·rw [if_pos h0];by_cases hi:(i:Int)>0
      ·rw [if_pos hi,if_pos ⟨h0,hi⟩]
      ·rw [if_neg hi,if_neg (fun e=>hi e.2)]
     ·rw [if_neg h0,if_neg (fun e=>h0 e.1)]
    ·rw [if_neg hc,if_neg hc];rfl
   refine Ev.step hj2 ?_;(have hng:¬ (f=0∧c>1):=fun e=>hbad ⟨by omega,e.2⟩);simp only [dZ,if_neg hng];refine ez (fun hc=>?_) (fun hc=>?_)
   ·rw [if_pos hc];by_cases h0:c=0∧(i:Int)>0
    ·rw [if_pos (show c=0∧f<9 by omega)];simp only [if_pos h0];exact Ev.now _
    ·rw [if_neg (show ¬ (c=0∧f<9) by omega)];simp only [if_neg h0];exact Ev.now _
   ·rw [if_neg hc]
    have h8:i<9:=by
     rcases Nat.lt_or_ge i 9 with h | h
     ·exact h
     ·have:=h9 (by omega);omega
    have ih:=a6l s hs x1 hx hx2 f (i+1) (by omega) r (by rw [← g3];congr 1) (u+c % 128*128 ^ i) (by omega) (hsum.2.2.2 h8);rw [show x1+((i+1:Nat):Int)=x1+i+1 from by omega,Int.pow_succ] at ih;exact ih
theorem a3R (s:ByteArray) (x1:Int) (h1 : -9223372036854775808≤x1) (h2:x1≤9223372036854775807):Ev (fun k=>Y16.f k s x1) (cC s x1):=by
 unfold Y16.f cC;refine Ev.bind (a3g s) ?_;by_cases h:8000<s.size
 ·rw [if_pos h];exact aX (by simpa using h) (Ev.now _)
 ·rw [if_neg h];refine bG (by simpa using h) ?_;by_cases h0:x1<0
  ·rw [if_pos h0];exact aX h0 (Ev.now _)
  ·rw [if_neg h0];refine bG h0 ?_;have:=a6l s (by omega) x1 (by omega) h2 10 0 rfl _ rfl 0 (by omega) (by simp);simpa using this
theorem a2b {s:ByteArray} {x1 n p:Int} (h:cC s x1=(n,p,0)):s.size≤8000∧0≤x1∧x1+1≤p∧p≤s.size:=by
 unfold cC at h;split at h
 ·simp at h
 ·split at h
  ·simp at h
  ·have:=a6d 10 _ 0 x1 1 (by omega) n p 0 h rfl;rw [List.length_drop,bg] at this;omega
def dh (s:ByteArray) (at_:Int):ByteArray × Int × Int :=
 if (cC s at_).2.2=0 then
  (if (cC s at_).1<0∨(cC s at_).1>8000 then (⟨#[]⟩,0,3)
   else if (cC s at_).1>s.size-(cC s at_).2.1 then (⟨#[]⟩,0,4)
   else (s.extract (cC s at_).2.1.toNat ((cC s at_).2.1+(cC s at_).1).toNat,(cC s at_).2.1+(cC s at_).1,0))
 else (⟨#[]⟩,0,(cC s at_).2.2)
theorem a6N (s:ByteArray) (x1:Int) (h1 : -9223372036854775808≤x1) (h2:x1≤9223372036854775807):Ev (fun k=>Y43.f k s x1) (dh s x1):=by
 unfold Y43.f dh;refine Ev.bind (a3Y s x1 h1 h2) ?_;generalize hg:cC s x1=g;obtain ⟨n,p,c⟩:=g;by_cases hc:c=0
 ·subst hc;have hp:=a2b hg;refine aX rfl ?_;simp only [if_true];by_cases hn:n<0
  ·refine aX hn (Ev.step (f:=fun _=>some (⟨#[]⟩,0,3)) (fun k=>by simp [Y43.j0]) ?_);rw [if_pos (Or.inl hn)];exact Ev.now _
  ·refine bG hn ?_;by_cases h8:n>8000
   ·refine Ev.step (f:=fun _=>some (⟨#[]⟩,0,3)) (fun k=>by simp [Y43.j0,h8]) ?_;rw [if_pos (Or.inr h8)];exact Ev.now _
   ·rw [if_neg (by omega)];refine Ev.step (f:=fun _=>_) (fun k=>?_) (evOf rfl);simp only [h8,decide_false,Y43.j0];rw [if_neg (by simp),w64 (x:=(s.size:Int)-n) (by omega) (by omega),w64 (x:=p+n) (by omega) (by omega)];by_cases hl:n>s.size-p
    ·rw [if_pos (by omega),if_pos hl]
    ·rw [if_neg (by omega),if_neg hl,if_pos (by omega),if_pos (by omega),if_pos (by omega)]
 ·exact bG hc (by rw [if_neg hc];exact Ev.now _)
theorem a6H (s:ByteArray) (x1:Int) (h1 : -9223372036854775808≤x1) (h2:x1≤9223372036854775807):Ev (fun k=>Y68.f k s x1) (dh s x1):=by
 unfold Y68.f dh;refine Ev.bind (a3R s x1 h1 h2) ?_;generalize hg:cC s x1=g;obtain ⟨n,p,c⟩:=g;by_cases hc:c=0
 ·subst hc;have hp:=a2b hg;refine aX rfl (bp (a2g _ _ _) ?_);simp only [if_true];by_cases hn:cM n 0 8000=true
  ·(have hn':0≤n∧n≤8000:=by simpa [cM] using hn);refine aX hn (bp rfl ?_);rw [if_neg (show ¬ (n<0∨n>8000) by omega)];simp only [w64 (x:=(s.size:Int)-p) (by omega) (by omega),w64 (x:=p+n) (by omega) (by omega)];by_cases hl:n>s.size-p
   ·simp only [if_pos hl];exact Ev.now _
   ·simp only [if_neg hl];exact (aX (by omega) (aX (by omega) (aX (by omega) (Ev.now _))))
  ·have hn':n<0∨n>8000:=by
    simp [cM] at hn;omega
   rw [if_pos hn'];exact bG hn (Ev.now _)
 ·exact bG hc (by rw [if_neg hc];exact Ev.now _)
theorem b2l {u:Int} (h:0≤u):zig (a3v u)=u:=by
 unfold zig a3v;split <;> split <;> omega
theorem a5j (f:Nat) {c:Int} (h0:0≤c) (h1:c<128):cL f c=[c]:=by
 cases f with
 | zero=>simp only [cL];rw [show c % 256=c from by omega]
 | succ f=>simp only [cL];rw [if_neg (by omega),show c % 256=c from by omega]
theorem a6w:∀ (f:Nat),f≤9→∀ (bs:List Int) (u p w n q:Int),(∀ c ∈ bs,0≤c∧c<256)→dZ (f+1) bs u p w=(n,q,0) →
  ∃ v r,0≤v∧(f<9→1≤v)∧bs=cL f v ++ r∧q=p+((cL f v).length:Int)∧n=a3v (u+v*w)∧v<128 ^ (f+1)
 | f,_,[],u,p,w,n,q,_,h=>by simp [dZ] at h
 | f,hf9,c :: r,u,p,w,n,q,hb,h=>by
  have hc:=hb c List.mem_cons_self;simp only [dZ] at h;split at h
  ·simp at h
  ·rename_i h1;split at h
   ·rename_i h2;split at h
    ·simp at h
    ·rename_i h3;simp only [Prod.mk.injEq,and_true] at h;refine ⟨c,r,hc.1,fun hf=>by omega,?_,?_,?_,Int.lt_of_lt_of_le h2 (a8t (i:=1) (by omega))⟩
     ·rw [a5j f hc.1 h2];rfl
     ·rw [a5j f hc.1 h2];simp;omega
     ·rw [← h.1,show c % 128=c from by omega]
   ·rename_i h2
    cases f with
    | zero=>omega
    | succ f =>
     obtain ⟨v,r',g0,g1,g2,g3,g4,g5⟩:=a6w f (by omega) r (u+c % 128*w) (p+1) (w*128) n q (fun x hx=>hb x (List.mem_cons_of_mem _ hx)) h;have hv1:1≤v:=g1 (by omega)
     have e:cL (f+1) (c % 128+128*v)=c :: cL f v:=by
      simp only [cL];rw [if_pos (by omega),show (c % 128+128*v) % 128+128=c from by omega,show (c % 128+128*v) / 128=v from by omega]
     refine ⟨c % 128+128*v,r',by omega,fun _=>by omega,?_,?_,?_,by rw [Int.pow_succ];omega⟩
     ·rw [e,g2];rfl
     ·rw [e];simp;omega
     ·rw [g4,Int.add_mul,show 128*v*w=v*(w*128) from by rw [Int.mul_comm 128 v,Int.mul_assoc,Int.mul_comm 128 w],Int.add_assoc]
theorem a8f (s:ByteArray):∀ c ∈ bytesOf s,0≤c∧c<256:=by
 intro c hc;simp only [bytesOf,List.mem_map] at hc;obtain ⟨b,_,rfl⟩:=hc;have:=b.toNat_lt;omega
theorem a9s {s:ByteArray} {x n p:Int} (h:cC s x=(n,p,0)):∃ r,(bytesOf s).drop x.toNat=cL 9 (zig n) ++ r∧p=x+((cL 9 (zig n)).length:Int)∧zig n<128 ^ 10∧0≤zig n:=by
 unfold cC at h;split at h
 ·simp at h
 ·split at h
  ·simp at h
  ·obtain ⟨v,r,g0,_,g2,g3,g4,g5⟩:=a6w 9 (by omega) _ 0 x 1 n p (fun c hc=>a8f s c (List.mem_of_mem_drop hc)) h;(have e:zig n=v:=by rw [g4,show 0+v*1=v from by omega,b2l g0]);rw [e];exact ⟨r,g2,g3,g5,g0⟩
theorem a0n (a b:ByteArray):bytesOf (a ++ b)=bytesOf a ++ bytesOf b:=by
 simp only [bytesOf];rw [show (a ++ b).data=a.data ++ b.data from by simp];simp
theorem a5e:∀ (l:List Int),(∀ c ∈ l,0≤c∧c<256)→bytesOf (strOfNums l)=l:=by
 intro l h;simp only [bytesOf,strOfNums];rw [List.map_map];(conv=>rhs;rw [← List.map_id l]);refine List.map_congr_left (fun c hc=>?_);have:=h c hc;simp only [Function.comp,id,UInt8.toNat_ofNat'];omega
theorem a5u:∀ (f:Nat) (u:Int),∀ c ∈ cL f u,0≤c∧c<256
 | 0,u,c,hc=>by simp only [cL,List.mem_singleton] at hc;omega
 | f+1,u,c,hc=>by
  simp only [cL] at hc;split at hc
  ·rcases List.mem_cons.1 hc with rfl | hc
   ·omega
   ·exact a5u f _ c hc
  ·simp only [List.mem_singleton] at hc;omega
theorem a0G (n:Int):bytesOf (bI n)=cL 9 (zig n):=a5e _ (a5u 9 _)
theorem a3V {a b:ByteArray} (h:bytesOf a=bytesOf b):a=b:=by
 have key:∀ (l m:List UInt8),l.map (fun b=>(b.toNat:Int))=m.map (fun b=>(b.toNat:Int))→l=m:=by
  intro l
  induction l with
  | nil=>intro m hm;cases m with
   | nil=>rfl
   | cons x r=>simp at hm
  | cons x r ih =>
   intro m hm
   cases m with
   | nil=>simp at hm
   | cons y q =>
    simp only [List.map_cons,List.cons.injEq] at hm;rw [ih q hm.2,UInt8.toNat_inj.1 (Int.ofNat.inj hm.1)]
 have h2:=key _ _ h;obtain ⟨a⟩:=a;obtain ⟨b⟩:=b;simp only [ByteArray.mk.injEq];exact Array.toList_inj.1 h2
def Span (s:ByteArray) (p:Int) (bs:List Int) (q:Int):Prop:=0≤p∧q=p+(bs.length:Int)∧q≤(s.size:Int)∧(bytesOf s).drop p.toNat=bs ++ (bytesOf s).drop q.toNat
theorem Span.of {s:ByteArray} {p q:Int} {bs r:List Int} (h0:0≤p) (h1:q=p+(bs.length:Int)) (h2:q≤(s.size:Int)) (h:(bytesOf s).drop p.toNat=bs ++ r):Span s p bs q:=by
 refine ⟨h0,h1,h2,?_⟩;rw [h,show q.toNat=p.toNat+bs.length from by omega,← List.drop_drop,h,List.drop_left]
theorem Span.trans {s:ByteArray} {p q r:Int} {b c:List Int} (h:Span s p b q) (h2:Span s q c r):Span s p (b ++ c) r:=by
 obtain ⟨a0,a1,a2,a3⟩:=h;obtain ⟨b0,b1,b2,b3⟩:=h2;exact ⟨a0,by rw [List.length_append];omega,b2,by rw [a3,b3,List.append_assoc]⟩
theorem Span.nil {s:ByteArray} {p:Int} (h0:0≤p) (h1:p≤(s.size:Int)):Span s p [] p:=⟨h0,by simp,h1,by simp⟩
theorem Span.whole {s:ByteArray} {q:Int} {bs:List Int} (h:Span s 0 bs q):q=(s.size:Int) ↔ bytesOf s=bs:=by
 obtain ⟨_,a1,a2,a3⟩:=h;rw [show (0:Int).toNat=0 from rfl,List.drop_zero] at a3;have hl:=congrArg List.length a3;rw [bg,List.length_append,List.length_drop,bg] at hl;constructor
 ·intro e;rw [a3,e,List.drop_of_length_le (by rw [bg];omega),List.append_nil]
 ·intro e;have:=congrArg List.length e;rw [bg] at this;omega
def bD (s:ByteArray):Option Int→Option Int × Int
 | none=>(none,0)
 | some p=>if (cC s p).2.2=0 then (some (cC s p).2.1,(cC s p).1) else (none,0)
theorem a1j {s:ByteArray} {p q n:Int} (h:bD s (some p)=(some q,n)):Span s p (bytesOf (bI n)) q∧p+1≤q∧zig n<128 ^ 10∧0≤zig n:=by
 simp only [bD] at h;split at h
 ·rename_i hc;simp only [Prod.mk.injEq,Option.some.injEq] at h
  have e:cC s p=(n,q,0):=by
   obtain ⟨h1,h2⟩:=h;rw [← h1,← h2,← hc]
  obtain ⟨r,g1,g2,g3,g4⟩:=a9s e;have hp:=a2b e;rw [a0G];exact ⟨Span.of hp.2.1 g2 hp.2.2.2 g1,hp.2.2.1,g3,g4⟩
 ·simp at h
def cF (s:ByteArray) (o:Option Int) (most:Int):Option Int × Int:=if cM (bD s o).2 0 most=true then bD s o else (none,0)
theorem a1Q (s:ByteArray) (o:Option Int) (most:Int) (h:0≤most):0≤(cF s o most).2∧(cF s o most).2≤most:=by
 unfold cF;split
 ·rename_i hw;simpa [cM] using hw
 ·exact ⟨Int.le_refl _,h⟩
def dI (s:ByteArray):Nat→Option Int→Option Int × List Mark
 | 0,o=>(o,[])
 | _+1,none=>(none,[])
 | k+1,some p=>((dI s k (bD s (bD s (some p)).1).1).1,⟨(bD s (some p)).2,(bD s (bD s (some p)).1).2⟩ :: (dI s k (bD s (bD s (some p)).1).1).2)
theorem a4E (s:ByteArray):∀ (k:Nat) (o:Option Int),(dI s k o).2.length≤k
 | 0,_=>by simp [dI]
 | _+1,none=>by simp [dI]
 | k+1,some p=>by
  have:=a4E s k (bD s (bD s (some p)).1).1;simp only [dI,List.length_cons];omega
theorem a3Z (s:ByteArray):∀ k,(dI s k none).1=none
 | 0=>rfl
 | _+1=>rfl
def a0b (l:List Mark):List Int:=l.flatMap fun m=>bytesOf (a0N m)
theorem a6C {s:ByteArray}:∀ (k:Nat) (p q:Int),0≤p→p≤(s.size:Int)→(dI s k (some p)).1=some q→Span s p (a0b (dI s k (some p)).2) q∧(dI s k (some p)).2.length=k
 | 0,p,q,h0,h1,h=>by
  simp only [dI,Option.some.injEq] at h;subst h;exact ⟨Span.nil h0 h1,rfl⟩
 | k+1,p,q,h0,h1,h=>by
  simp only [dI] at h ⊢
  cases ha:bD s (some p) with
  | mk a n =>
   rw [ha] at h
   cases a with
   | none=>simp only [bD,a3Z] at h;cases h
   | some a =>
    cases hb:bD s (some a) with
    | mk b m =>
     simp only [hb] at h ⊢
     cases b with
     | none=>rw [a3Z] at h;cases h
     | some b =>
      have s1:=(a1j ha).1;have s2:=(a1j hb).1;have ih:=a6C k b q (by have:=s2.1;have:=s2.2.1;omega) s2.2.2.1 h;refine ⟨?_,by simp only [List.length_cons,ih.2]⟩;show Span s p (bytesOf (bI n ++ bI m) ++ a0b (dI s k (some b)).2) q;rw [a0n];exact (s1.trans s2).trans ih.1
theorem a4F (f:Mark→ByteArray):∀ (l:List Mark) (t:ByteArray),bytesOf (l.foldl (fun t m=>t ++ f m) t)=bytesOf t ++ l.flatMap fun m=>bytesOf (f m)
 | [],t=>by simp
 | m :: r,t=>by
  rw [List.foldl_cons,a4F f r,a0n,List.flatMap_cons,List.append_assoc]
theorem a1o (v:List Mark):bytesOf (a0X v)=bytesOf (bI (v.length:Int)) ++ a0b v:=a4F a0N v _
def bV (s:ByteArray) (o:Option Int):Option Int × List Mark:=dI s (cF s o 5).2.toNat (cF s o 5).1
theorem a3d (s:ByteArray) (o:Option Int):(bV s o).2.length≤5:=by
 have h1:=a4E s (cF s o 5).2.toNat (cF s o 5).1;have h2:=a1Q s o 5 (by omega);unfold bV;omega
theorem a4Q {s:ByteArray} {p q n most:Int} (hm:0≤most) (h:cF s (some p) most=(some q,n)):Span s p (bytesOf (bI n)) q∧p+1≤q∧0≤n∧n≤most:=by
 have hn:=a1Q s (some p) most hm;rw [h] at hn;unfold cF at h;split at h
 ·exact ⟨(a1j h).1,(a1j h).2.1,hn⟩
 ·simp at h
theorem a7C {s:ByteArray} {p q:Int} (h:(bV s (some p)).1=some q):Span s p (bytesOf (a0X (bV s (some p)).2)) q∧p+1≤q:=by
 unfold bV at h ⊢
 cases ha:cF s (some p) 5 with
 | mk a n =>
  rw [ha] at h
  cases a with
  | none=>rw [a3Z] at h;cases h
  | some a =>
   have s1:=a4Q (by omega) ha;have s2:=a6C n.toNat a q (by have:=s1.1.1;omega) s1.1.2.2.1 h;refine ⟨?_,by have:=s2.1.2.1;omega⟩;rw [a1o,s2.2,show ((n.toNat:Nat):Int)=n from by omega];exact s1.1.trans s2.1
theorem a8u:∀ (f:Nat) (bs:List Int) (u p w:Int),(dZ f bs u p w).2.2≠0→(dZ f bs u p w).1=0∧(dZ f bs u p w).2.1=0
 | 0,_,_,_,_,_=>by simp [dZ]
 | _+1,[],_,_,_,_=>by simp [dZ]
 | f+1,c :: r,u,p,w,h=>by
  simp only [dZ] at h ⊢;split
  ·simp
  ·rename_i h1;rw [if_neg h1] at h;split
   ·rename_i h2;rw [if_pos h2] at h;split
    ·simp
    ·rename_i h3;rw [if_neg h3] at h;simp at h
   ·rename_i h2;rw [if_neg h2] at h;exact a8u f r _ _ _ h
theorem b0O {s:ByteArray} {x:Int} (h:(cC s x).2.2≠0):(cC s x).1=0∧(cC s x).2.1=0:=by
 unfold cC at h ⊢;split
 ·simp
 ·rename_i h1;rw [if_neg h1] at h;split
  ·simp
  ·rename_i h2;rw [if_neg h2] at h;exact a8u _ _ _ _ _ h
def St (s:ByteArray) (o:Option Int) (p:Int) (b:Bool):Prop:=0≤p∧p≤(s.size:Int)∧o=if b=true then none else some p
theorem St.bad {s:ByteArray} {o:Option Int} {p:Int} (h:St s o p true):o=none:=h.2.2
theorem St.good {s:ByteArray} {o:Option Int} {p:Int} (h:St s o p false):o=some p:=h.2.2
theorem a6a {s:ByteArray} {x:Int} (h:(cC s x).2.2=0):0≤(cC s x).2.1∧(cC s x).2.1≤(s.size:Int):=by
 have:=a2b (s:=s) (x1:=x) (n:=(cC s x).1) (p:=(cC s x).2.1) (by rw [← h]);omega
theorem a1l {s:ByteArray} (hs:s.size≤8000) {o:Option Int} {p:Int} {b:Bool} (h:St s o p b):∃ p' b',St s (bD s o).1 p' b'∧Ev (fun k=>Y35.f k s p b) ((bD s o).2,s,p',b'):=by
 obtain ⟨h0,h1,h2⟩:=h;unfold Y35.f
 cases b with
 | true =>
  simp only [if_true] at h2;subst h2;exact ⟨p,true,⟨h0,h1,rfl⟩,aX rfl (Ev.now _)⟩
 | false =>
  simp only [Bool.false_eq_true,if_false] at h2;subst h2;have e:=a3R s p (by omega) (by omega);by_cases hc:(cC s p).2.2=0
  ·have hk:=a6a hc;refine ⟨(cC s p).2.1,false,⟨hk.1,hk.2,by simp [bD,hc]⟩,bG (by simp) (Ev.bind e ?_)⟩;simp only [bD,if_pos hc,hc];exact Ev.now _
  ·have hk:=b0O hc;refine ⟨0,true,⟨Int.le_refl _,by omega,by simp [bD,hc]⟩,bG (by simp) (Ev.bind e ?_)⟩;simp only [bD,if_neg hc,hk.1,hk.2];(have:((cC s p).2.2 != 0)=true:=by simpa using hc);rw [this];exact Ev.now _
theorem a1n {s:ByteArray} (hs:s.size≤8000) {o:Option Int} {p:Int} {b:Bool} (h:St s o p b):∃ p' b',St s (bD s o).1 p' b'∧Ev (fun k=>Y12.f k s p b) ((bD s o).2,s,p',b'):=by
 obtain ⟨h0,h1,h2⟩:=h;unfold Y12.f;have e:=a3Y s p (by omega) (by omega);have jT:∀ b n q c,Ev (fun k=>Y12.j0 k true s p b n q c) (0,s,p,true):=fun b n q c=>Ev.step (f:=fun _=>some (0,s,p,true)) (fun k=>by simp [Y12.j0]) (Ev.now _)
 cases b with
 | true =>
  simp only [if_true] at h2;subst h2;exact ⟨p,true,⟨h0,h1,rfl⟩,Ev.bind e (aX rfl (jT _ _ _ _))⟩
 | false =>
  simp only [Bool.false_eq_true,if_false] at h2;subst h2;by_cases hc:(cC s p).2.2=0
  ·have hk:=a6a hc;(have er:bD s (some p)=(some (cC s p).2.1,(cC s p).1):=by simp [bD,hc]);rw [er];refine ⟨(cC s p).2.1,false,⟨hk.1,hk.2,rfl⟩,Ev.bind e (bG (by simp) ?_)⟩;simp only [hc];exact Ev.step (f:=fun _=>some _) (fun k=>by simp only [Y12.j0];rw [if_neg (by simp)]) (Ev.now _)
  ·refine ⟨p,true,⟨h0,h1,by simp [bD,hc]⟩,Ev.bind e (bG (by simp) ?_)⟩;simp only [bD,if_neg hc];(have:((cC s p).2.2 != 0)=true:=by simpa using hc);rw [this];exact jT _ _ _ _
theorem a4A {s:ByteArray} (hs:s.size≤8000) {o:Option Int} {p:Int} {b:Bool} (h:St s o p b) (most:Int):∃ p' b',St s (cF s o most).1 p' b'∧Ev (fun k=>Y60.f k s p b most) ((cF s o most).2,s,p',b'):=by
 obtain ⟨p',b',h1,h2⟩:=a1l hs h;unfold Y60.f cF;by_cases hw:cM (bD s o).2 0 most=true
 ·rw [if_pos hw];exact ⟨p',b',h1,Ev.bind h2 (bp (a2g _ _ _) (aX hw (Ev.now _)))⟩
 ·rw [if_neg hw];exact ⟨p',true,⟨h1.1,h1.2.1,rfl⟩,Ev.bind h2 (bp (a2g _ _ _) (bG hw (Ev.now _)))⟩
theorem a5s {s:ByteArray} (hs:s.size≤8000) {o:Option Int} {p:Int} {b:Bool} (h:St s o p b) (most:Int):∃ p' b',St s (cF s o most).1 p' b'∧Ev (fun k=>Y46.f k s p b most) ((cF s o most).2,s,p',b'):=by
 obtain ⟨p',b',h1,h2⟩:=a1n hs h;unfold Y46.f cF;by_cases hw:cM (bD s o).2 0 most=true
 ·rw [if_pos hw];exact ⟨p',b',h1,Ev.bind h2 (bp (a5g _ _ _) (aX hw (Ev.now _)))⟩
 ·rw [if_neg hw];exact ⟨p',true,⟨h1.1,h1.2.1,rfl⟩,Ev.bind h2 (bp (a5g _ _ _) (bG hw (Ev.now _)))⟩
theorem a5p {s:ByteArray} (hs:s.size≤8000):∀ (n:Nat) (o:Option Int) (p:Int) (b:Bool) (acc:List Mark),n≤5→acc.length+n≤5→St s o p b →
  ∃ p' b',St s (dI s n o).1 p' b'∧Ev (fun k=>Y10.l0 k acc (n:Int) s p b) (acc ++ (dI s n o).2,s,p',b')
 | 0,o,p,b,acc,hn,ha,h=>by
  refine ⟨p,b,h,?_⟩;simp only [dI,List.append_nil];refine Ev.step (f:=fun k=>Y10.j1 k acc ((0:Nat):Int) false s p b) (fun k=>?_) (Ev.step (f:=fun _=>some (acc,s,p,b)) (fun k=>by simp [Y10.j1]) (Ev.now _));simp only [Y10.l0];rw [if_neg (by omega)]
 | n+1,o,p,true,acc,hn,ha,h=>by
  have ho:=h.bad;subst ho;refine ⟨p,true,h,?_⟩;simp only [dI,List.append_nil];refine Ev.step (f:=fun k=>Y10.j1 k acc ((n+1:Nat):Int) false s p true) (fun k=>?_) (Ev.step (f:=fun _=>some (acc,s,p,true)) (fun k=>by simp [Y10.j1]) (Ev.now _));simp only [Y10.l0];rw [if_pos (by omega)];rfl
 | n+1,o,p,false,acc,hn,ha,h=>by
  have ho:=h.good;subst ho;obtain ⟨p1,b1,s1,e1⟩:=a1n hs h;obtain ⟨p2,b2,s2,e2⟩:=a1n hs s1;obtain ⟨p3,b3,s3,e3⟩:=a5p hs n _ p2 b2 (acc ++ [⟨(bD s (some p)).2,(bD s (bD s (some p)).1).2⟩]) (by omega) (by simp;omega) s2;refine ⟨p3,b3,s3,?_⟩;simp only [dI];rw [List.append_assoc,List.singleton_append] at e3;refine Ev.step (f:=fun k=>Y10.j1 k acc ((n+1:Nat):Int) true s p false) (fun k=>?_) ?_
  ·simp only [Y10.l0];rw [if_pos (by omega)];rfl
  ·(have hj:∀ k,Y10.j1 (k+1) acc ((n+1:Nat):Int) true s p false=(Y12.f k s p false).bind fun a=>(Y12.f k a.2.1 a.2.2.1 a.2.2.2).bind fun c=>if acc.length<8796093022208 then Y10.l0 k (acc ++ [⟨a.1,c.1⟩]) (wrap64 (((n+1:Nat):Int)-1)) c.2.1 c.2.2.1 c.2.2.2 else none:=fun k=>by simp [Y10.j1]);refine Ev.step hj (Ev.bind e1 (Ev.bind e2 (aX (by omega) ?_)));rw [w64 (by omega) (by omega),show ((n+1:Nat):Int)-1=(n:Int) from by omega];exact e3
theorem a9a {s:ByteArray} (hs:s.size≤8000) {o:Option Int} {p:Int} {b:Bool} (h:St s o p b):∃ p' b',St s (bV s o).1 p' b'∧Ev (fun k=>Y10.f k s p b) ((bV s o).2,s,p',b'):=by
 obtain ⟨p1,b1,s1,e1⟩:=a5s hs h 5;have hm:=a1Q s o 5 (by omega);obtain ⟨p2,b2,s2,e2⟩:=a5p hs (cF s o 5).2.toNat _ p1 b1 [] (by omega) (by simp;omega) s1;refine ⟨p2,b2,s2,Ev.bind e1 ?_⟩;rw [show (((cF s o 5).2.toNat:Nat):Int)=(cF s o 5).2 from by omega,List.nil_append] at e2;exact e2
theorem a8Y {s:ByteArray} (hs:s.size≤8000):∀ (n:Nat) (o:Option Int) (p:Int) (b:Bool) (acc:List Mark),n≤5→acc.length+n≤5→St s o p b →
  ∃ p' b',St s (dI s n o).1 p' b'∧Ev (fun k=>Y23.l0 k acc (n:Int) s p b) (acc ++ (dI s n o).2,s,p',b' || !bX (acc ++ (dI s n o).2)):=by
 have jE:∀ (acc:List Mark) (n:Int) (p:Int) (b:Bool),acc.length≤5→Ev (fun k=>Y23.j1 k acc n false s p b) (acc,s,p,b || !bX acc):=by
  intro acc n p b ha
  cases b with
  | true=>exact Ev.step (f:=fun _=>some (acc,s,p,true)) (fun k=>by simp [Y23.j1]) (Ev.now _)
  | false =>
   refine Ev.step (fun k=>by simp only [Y23.j1];rw [if_neg (by simp),if_neg (by simp)]) (Ev.bind (a0T acc (by omega)) ?_);simp only [Bool.false_or];exact Ev.now _
 intro n
 induction n with
 | zero =>
  intro o p b acc hn ha h;refine ⟨p,b,h,?_⟩;simp only [dI,List.append_nil];refine Ev.step (fun k=>?_) (jE acc ((0:Nat):Int) p b (by omega));simp only [Y23.l0];rw [if_neg (by omega)]
 | succ n ih =>
  intro o p b acc hn ha h
  cases b with
  | true =>
   have ho:=h.bad;subst ho;refine ⟨p,true,h,?_⟩;simp only [dI,List.append_nil];refine Ev.step (fun k=>?_) (jE acc ((n+1:Nat):Int) p true (by omega));simp only [Y23.l0];rw [if_pos (by omega)];rfl
  | false =>
   have ho:=h.good;subst ho;obtain ⟨p1,b1,s1,e1⟩:=a1l hs h;obtain ⟨p2,b2,s2,e2⟩:=a1l hs s1;obtain ⟨p3,b3,s3,e3⟩:=ih _ p2 b2 (acc ++ [⟨(bD s (some p)).2,(bD s (bD s (some p)).1).2⟩]) (by omega) (by simp;omega) s2;refine ⟨p3,b3,s3,?_⟩;simp only [dI];rw [List.append_assoc,List.singleton_append] at e3;refine Ev.step (f:=fun k=>Y23.j1 k acc ((n+1:Nat):Int) true s p false) (fun k=>?_) ?_
   ·simp only [Y23.l0];rw [if_pos (by omega)];rfl
   ·(have hj:∀ k,Y23.j1 (k+1) acc ((n+1:Nat):Int) true s p false=(Y35.f k s p false).bind fun a=>(Y35.f k a.2.1 a.2.2.1 a.2.2.2).bind fun c=>if acc.length<8796093022208 then Y23.l0 k (acc ++ [⟨a.1,c.1⟩]) (wrap64 (((n+1:Nat):Int)-1)) c.2.1 c.2.2.1 c.2.2.2 else none:=fun k=>by simp [Y23.j1]);refine Ev.step hj (Ev.bind e1 (Ev.bind e2 (aX (by omega) ?_)));rw [w64 (by omega) (by omega),show ((n+1:Nat):Int)-1=(n:Int) from by omega];exact e3
theorem a9e {s:ByteArray} (hs:s.size≤8000) {o:Option Int} {p:Int} {b:Bool} (h:St s o p b):∃ p' b',St s (bV s o).1 p' b'∧Ev (fun k=>Y23.f k s p b) ((bV s o).2,s,p',b' || !bX (bV s o).2):=by
 obtain ⟨p1,b1,s1,e1⟩:=a4A hs h 5;have hm:=a1Q s o 5 (by omega);obtain ⟨p2,b2,s2,e2⟩:=a8Y hs (cF s o 5).2.toNat _ p1 b1 [] (by omega) (by simp;omega) s1;refine ⟨p2,b2,s2,Ev.bind e1 ?_⟩;rw [show (((cF s o 5).2.toNat:Nat):Int)=(cF s o 5).2 from by omega,List.nil_append] at e2;exact e2
theorem St.start (s:ByteArray):St s (some 0) 0 false:=⟨Int.le_refl _,by omega,rfl⟩
theorem a6z:∀ (f:Nat) (u v:Int) (r r':List Int),0≤u→u<128 ^ (f+1)→0≤v→v<128 ^ (f+1)→cL f u ++ r=cL f v ++ r'→u=v∧r=r'
 | 0,u,v,r,r',u0,u1,v0,v1,h=>by
  simp only [cL,List.cons_append,List.nil_append,List.cons.injEq] at h;exact ⟨by omega,h.2⟩
 | f+1,u,v,r,r',u0,u1,v0,v1,h=>by
  rw [Int.pow_succ] at u1 v1;simp only [cL] at h;by_cases hu:u≥128
  ·rw [if_pos hu] at h;by_cases hv:v≥128
   ·rw [if_pos hv] at h;simp only [List.cons_append,List.cons.injEq] at h;have ih:=a6z f (u / 128) (v / 128) r r' (by omega) (by omega) (by omega) (by omega) h.2;exact ⟨by omega,ih.2⟩
   ·rw [if_neg hv] at h;simp only [List.cons_append,List.cons.injEq] at h;omega
  ·rw [if_neg hu] at h;by_cases hv:v≥128
   ·rw [if_pos hv] at h;simp only [List.cons_append,List.cons.injEq] at h;omega
   ·rw [if_neg hv] at h;simp only [List.cons_append,List.nil_append,List.cons.injEq] at h;exact ⟨by omega,h.2⟩
theorem b3E {a b:Int} (h:zig a=zig b):a=b:=by
 unfold zig at h;split at h <;> split at h <;> omega
theorem a9L {a b:Int} {r r':List Int} (ha:zig a<128 ^ 10∧0≤zig a) (hb:zig b<128 ^ 10∧0≤zig b) (h:bytesOf (bI a) ++ r=bytesOf (bI b) ++ r'):a=b∧r=r':=by
 rw [a0G,a0G] at h;have:=a6z 9 _ _ r r' ha.2 ha.1 hb.2 hb.1 h;exact ⟨b3E this.1,this.2⟩
def dV (s:ByteArray):Option Int→Option Int × ByteArray
 | none=>(none,⟨#[]⟩)
 | some p=>if (dh s p).2.2=0 then (some (dh s p).2.1,(dh s p).1) else (none,⟨#[]⟩)
theorem a3z (s:ByteArray) (a b:Nat):bytesOf (s.extract a b)=((bytesOf s).drop a).take (b-a):=by
 simp only [bytesOf];rw [show (s.extract a b).data=s.data.extract a b from by simp];rw [Array.toList_extract,List.extract_eq_take_drop,List.map_take,List.map_drop]
theorem b0y {s:ByteArray} {p q:Int} {t:ByteArray} (h:dV s (some p)=(some q,t)):Span s p (bytesOf (dL t)) q∧p+1≤q:=by
 simp only [dV] at h;split at h
 ·rename_i hc;simp only [Prod.mk.injEq,Option.some.injEq] at h;obtain ⟨h1,h2⟩:=h;unfold dh at hc h1 h2;split at hc
  ·rename_i hn;rw [if_pos hn] at h1 h2;split at hc
   ·simp at hc
   ·rename_i hr;rw [if_neg hr] at h1 h2;split at hc
    ·simp at hc
    ·rename_i hl;rw [if_neg hl] at h1 h2;simp only at h1 h2;(have e:bD s (some p)=(some (cC s p).2.1,(cC s p).1):=by simp [bD,hn]);generalize cC s p=g at *;have s1:=a1j e
     have hlen:(bytesOf t).length=g.1.toNat:=by
      rw [← h2,a3z,List.length_take,List.length_drop,bg];have:=s1.1.2.2.1;have:=s1.1.1;have:=s1.1.2.1;omega
     have ht:t.size=g.1.toNat:=by rw [← hlen,bg]
     have s2:Span s g.2.1 (bytesOf t) q:=by
      have a1:=s1.1.1;have a2:=s1.1.2.1;have a3:=s1.1.2.2.1;refine ⟨by omega,by rw [hlen];omega,by omega,?_⟩;rw [← h2,a3z,← h1];(have e2:(g.2.1+g.1).toNat=g.2.1.toNat+g.1.toNat:=by omega);rw [e2,show g.2.1.toNat+g.1.toNat-g.2.1.toNat=g.1.toNat from by omega,← List.drop_drop,List.take_append_drop]
     refine ⟨?_,by have:=s2.2.1;omega⟩;unfold dL;rw [if_neg (by omega),a0n,ht,show ((g.1.toNat:Nat):Int)=g.1 from by omega];exact s1.1.trans s2
  ·rename_i hn;exact absurd hc hn
 ·simp at h
def dB (s:ByteArray):Nat→Option Int→Option Int × List (Sib × Int)
 | 0,o=>(o,[])
 | _+1,none=>(none,[])
 | k+1,some p =>
  ((dB s k (dV s (bD s (bD s (bD s (some p)).1).1).1).1).1,
   (⟨⟨(bD s (some p)).2,(bD s (bD s (some p)).1).2⟩,(bD s (bD s (bD s (some p)).1).1).2 == 1,(dV s (bD s (bD s (bD s (some p)).1).1).1).2⟩,(bD s (bD s (bD s (some p)).1).1).2) :: (dB s k (dV s (bD s (bD s (bD s (some p)).1).1).1).1).2)
def ek (s:ByteArray):Nat→Option Int→Option Int × List Sib
 | 0,o=>(o,[])
 | _+1,none=>(none,[])
 | k+1,some p =>
  ((ek s k (if cM (bD s (bD s (bD s (some p)).1).1).2 0 1=true then (dV s (bD s (bD s (bD s (some p)).1).1).1).1 else none)).1,
   ⟨⟨(bD s (some p)).2,(bD s (bD s (some p)).1).2⟩,(bD s (bD s (bD s (some p)).1).1).2 == 1,(dV s (bD s (bD s (bD s (some p)).1).1).1).2⟩ :: (ek s k (if cM (bD s (bD s (bD s (some p)).1).1).2 0 1=true then (dV s (bD s (bD s (bD s (some p)).1).1).1).1 else none)).2)
def a0W (l:List (Sib × Int)):Bool:=l.all fun x=>cM x.2 0 1
theorem a1A (s:ByteArray):∀ k,(dB s k none).1=none
 | 0=>rfl
 | _+1=>rfl
theorem a9R (s:ByteArray):∀ k,(ek s k none).1=none
 | 0=>rfl
 | _+1=>rfl
theorem a5h (s:ByteArray):∀ (k:Nat) (o:Option Int),(dB s k o).2.length≤k
 | 0,_=>by simp [dB]
 | _+1,none=>by simp [dB]
 | k+1,some p=>by
  have:=a5h s k (dV s (bD s (bD s (bD s (some p)).1).1).1).1;simp only [dB,List.length_cons];omega
theorem a6y (s:ByteArray):∀ (k:Nat) (o:Option Int),a0W (dB s k o).2=true→ek s k o=((dB s k o).1,(dB s k o).2.map (·.1))
 | 0,_,_=>rfl
 | _+1,none,_=>rfl
 | k+1,some p,h=>by
  simp only [dB,a0W,List.all_cons,Bool.and_eq_true] at h;have ih:=a6y s k _ h.2;simp only [ek,dB,if_pos h.1,ih,List.map_cons]
theorem a6n (s:ByteArray):∀ (k:Nat) (o:Option Int) (q:Int),(ek s k o).1=some q→a0W (dB s k o).2=true
 | 0,_,_,_=>rfl
 | _+1,none,_,_=>rfl
 | k+1,some p,q,h=>by
  simp only [ek] at h;simp only [dB,a0W,List.all_cons,Bool.and_eq_true];by_cases hw:cM (bD s (bD s (bD s (some p)).1).1).2 0 1=true
  ·rw [if_pos hw] at h;exact ⟨hw,a6n s k _ q h⟩
  ·rw [if_neg hw,a9R] at h;cases h
def a8Z (x:Sib × Int):List Int:=bytesOf (bI x.1.f0.f0) ++ bytesOf (bI x.1.f0.f1) ++ (bytesOf (bI x.2) ++ bytesOf (dL x.1.f2))
def a5v (l:List (Sib × Int)):List Int:=l.flatMap a8Z
def b2U (l:List (Sib × Int)):Prop:=∀ x ∈ l,x.1.f1=(x.2 == 1)∧zig x.2<128 ^ 10∧0≤zig x.2
theorem a4Y {s:ByteArray}:∀ (k:Nat) (p q:Int),0≤p→p≤(s.size:Int)→(dB s k (some p)).1=some q→Span s p (a5v (dB s k (some p)).2) q∧(dB s k (some p)).2.length=k∧b2U (dB s k (some p)).2
 | 0,p,q,h0,h1,h=>by
  simp only [dB,Option.some.injEq] at h;subst h;exact ⟨Span.nil h0 h1,rfl,fun x hx=>by cases hx⟩
 | k+1,p,q,h0,h1,h=>by
  simp only [dB] at h ⊢
  cases ha:bD s (some p) with
  | mk a n =>
   rw [ha] at h
   cases a with
   | none=>simp only [bD,dV,a1A] at h;cases h
   | some a =>
    cases hb:bD s (some a) with
    | mk b m =>
     simp only [hb] at h ⊢
     cases b with
     | none=>simp only [bD,dV,a1A] at h;cases h
     | some b =>
      cases hc:bD s (some b) with
      | mk c g =>
       simp only [hc] at h ⊢
       cases c with
       | none=>simp only [dV,a1A] at h;cases h
       | some c =>
        cases hd:dV s (some c) with
        | mk d t =>
         simp only [hd] at h ⊢
         cases d with
         | none=>rw [a1A] at h;cases h
         | some d =>
          have s1:=a1j ha;have s2:=a1j hb;have s3:=a1j hc;have s4:=b0y hd;have ih:=a4Y k d q (by have:=s4.1.1;have:=s4.1.2.1;omega) s4.1.2.2.1 h;refine ⟨?_,by simp only [List.length_cons,ih.2.1],fun x hx=>?_⟩
          ·exact ((s1.1.trans s2.1).trans (s3.1.trans s4.1)).trans ih.1
          ·rcases List.mem_cons.1 hx with rfl | hx
           ·exact ⟨rfl,s3.2.2⟩
           ·exact ih.2.2 x hx
theorem a3H (x:Sib):bytesOf (a0m x)=bytesOf (bI x.f0.f0) ++ bytesOf (bI x.f0.f1) ++ (bytesOf (bI (if x.f1=true then 1 else 0)) ++ bytesOf (dL x.f2)):=by
 simp only [a0m,a0n,List.append_assoc]
theorem a3T (f:Sib→ByteArray):∀ (l:List Sib) (t:ByteArray),bytesOf (l.foldl (fun t m=>t ++ f m) t)=bytesOf t ++ l.flatMap fun m=>bytesOf (f m)
 | [],t=>by simp
 | m :: r,t=>by
  rw [List.foldl_cons,a3T f r,a0n,List.flatMap_cons,List.append_assoc]
def a0d (l:List Sib):List Int:=l.flatMap fun x=>bytesOf (a0m x)
theorem a0E (v:List Mark) (l:List Sib):bytesOf (setBytes v l)=bytesOf (a0X v) ++ bytesOf (bI (l.length:Int)) ++ a0d l:=by
 unfold setBytes;rw [a3T a0m l,a0n];rfl
theorem b2K {g:Int} (h:cM g 0 1=true):(if (g == 1)=true then (1:Int) else 0)=g:=by
 (have:0≤g∧g≤1:=by simpa [cM] using h);by_cases e:g=1
 ·simp [e]
 ·simp [e];omega
theorem a5k:∀ (l:List (Sib × Int)),b2U l→a0W l=true→a5v l=a0d (l.map (·.1))
 | [],_,_=>rfl
 | x :: r,ho,hg=>by
  simp only [a0W,List.all_cons,Bool.and_eq_true] at hg;have ih:=a5k r (fun y hy=>ho y (List.mem_cons_of_mem _ hy)) hg.2;have hx:=ho x List.mem_cons_self;show a8Z x ++ a5v r=bytesOf (a0m x.1) ++ a0d (r.map (·.1));rw [ih,a3H,hx.1,b2K hg.1];rfl
theorem b0c:∀ (l:List (Sib × Int)) (r r':List Int),b2U l→a5v l ++ r=a0d (l.map (·.1)) ++ r'→a0W l=true
 | [],_,_,_,_=>rfl
 | x :: t,r,r',ho,h=>by
  have hx:=ho x List.mem_cons_self;have e:a8Z x ++ a5v t ++ r=bytesOf (a0m x.1) ++ a0d (t.map (·.1)) ++ r':=h;rw [a3H] at e;simp only [a8Z,List.append_assoc] at e;have e1:=List.append_cancel_left (List.append_cancel_left e);have e2:=a9L hx.2 (by unfold zig;split <;> split <;> omega) e1;have e3:=List.append_cancel_left e2.2;have ih:=b0c t r r' (fun y hy=>ho y (List.mem_cons_of_mem _ hy)) e3;simp only [a0W,List.all_cons,Bool.and_eq_true];refine ⟨?_,ih⟩;rw [e2.1];split <;> rfl
end Go.Proofs.YtdlmdikfgclhoaaGreat.Q
