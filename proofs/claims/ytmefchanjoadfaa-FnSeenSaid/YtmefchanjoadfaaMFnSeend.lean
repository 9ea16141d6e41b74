/- Of drawn version vectors: a join contains what either contains and nothing else, an added dot is contained, what is encoded is read back; and all the program's functions of version vectors are the reference's. No condition. (Part 4 of 5: written by programs of this workplace and by hand, merged.) -/
import Derived.Test.YtmefchanjoadfaaMFnSeena
import Derived.Test.YtmefchanjoadfaaMFnSeenb
import Derived.Test.YtmefchanjoadfaaMFnSeenc
set_option linter.unusedVariables false
set_option linter.unusedSimpArgs false
set_option maxHeartbeats 8000000
set_option maxRecDepth 100000

namespace Go.Proofs.Ytmefchanjoadfaa.P
open Go.RowKit Go.Proofs.YtmefchanjoadfaaW.PrintWords Go.Proofs.YtmefchanjoadfaaW.PrintLast Go.Proofs.YtmefchanjoadfaaW.PrintMore
attribute [local go_sem] max2_int min2_int max_two min_two max_three min_three max_four min_four   -- for this text's walks alone
set_option linter.unusedVariables false
set_option linter.unusedSimpArgs false

/-! ### Y0: function 5 -/
mutual
def Y0.j0:Nat→List Int→List Int→Bool→Option (Bool)
 | 0,_,_,_=>none
 | k+1,x0,x1,x29=>if x29=true then (some true) else ((Y48.f k x0).bind fun bt714=>((Y51.f k bt714.1 bt714.2).bind fun t720=>((Y54.f k x1).bind fun bt723=>((Y55.f k x1).bind fun bt729=>((Y34.f k bt729.1 bt729.2.1 bt729.2.2).bind fun bt735=>((Y53.f k x0).bind fun bt740=>((Y43.f k x0).bind fun bt744=>((Y44.f k x1).bind fun t750=>((Y9.f k t750).bind fun t753=>((Y42.f k x0).bind fun t754=>((Y20.f k t754).bind fun bt755=>((Y47.f k bt714.1 bt714.2).bind fun t760=>((Y6.f k t720 t760).bind fun t763=>(if t763=true then ((Y32.f k bt723.1 bt723.2).bind fun t764=>((Y17.f k bt723.1 bt723.2).bind fun t765=>(if (t764 != t765)=true then (none) else ((Y16.f k bt729.1 bt729.2.1 bt729.2.2).bind fun bt766=>(if bt735.2=bt766.2 then ((Y16.f k bt729.1 bt729.2.1 bt729.2.2).bind fun bt770=>((Y6.f k bt735.1 bt770.1).bind fun t774=>(if t774=true then ((Y33.f k bt740.1 bt740.2).bind fun t775=>((Y40.f k bt740.1 bt740.2).bind fun t776=>(if t775=t776 then ((Y4.f k bt744.1 bt744.2.1 bt744.2.2).bind fun t777=>((Y8.f k bt744.1 bt744.2.1 bt744.2.2).bind fun t778=>(if (t777 != t778)=true then (none) else ((Y22.f k t750).bind fun t779=>(if t753.toList=t779.toList then ((Y11.f k t754).bind fun bt780=>(if bt755.2=bt780.2 then ((Y11.f k t754).bind fun bt784=>((Y6.f k bt755.1 bt784.1).bind fun t788=>(if t788=true then ((Y12.f k bt714.1).bind fun t789=>((Y1.f k bt714.1).bind fun t790=>(if (t789 != t790)=true then (none) else (if t753.toList=([]:List UInt8) then (if bt755.2=0 then ((Y9.f k bt755.1).bind fun t791=>(if t791.toList=t754.toList then (if bt735.2=0 then ((Y4.f k bt735.1 bt729.2.1 bt729.2.2).bind fun t792=>(Y0.j1 k bt714.1 bt714.2 t720 (!t792))) else (Y0.j1 k bt714.1 bt714.2 t720 false)) else (none))) else (if bt735.2=0 then ((Y4.f k bt735.1 bt729.2.1 bt729.2.2).bind fun t793=>(Y0.j1 k bt714.1 bt714.2 t720 (!t793))) else (Y0.j1 k bt714.1 bt714.2 t720 false))) else ((Y20.f k t753).bind fun bt794=>((Y6.f k bt794.1 t750).bind fun t798=>(if t798=true then (if bt755.2=0 then ((Y9.f k bt755.1).bind fun t799=>(if t799.toList=t754.toList then (if bt735.2=0 then ((Y4.f k bt735.1 bt729.2.1 bt729.2.2).bind fun t800=>(Y0.j1 k bt714.1 bt714.2 t720 (!t800))) else (Y0.j1 k bt714.1 bt714.2 t720 false)) else (none))) else (if bt735.2=0 then ((Y4.f k bt735.1 bt729.2.1 bt729.2.2).bind fun t801=>(Y0.j1 k bt714.1 bt714.2 t720 (!t801))) else (Y0.j1 k bt714.1 bt714.2 t720 false))) else (none)))))))) else (none)))) else (none))) else (none)))))) else (none)))) else (none)))) else (none)))))) else (none)))))))))))))))
def Y0.j1:Nat→List (S49)→List (S49)→List (S49)→Bool→Option (Bool)
 | 0,_,_,_,_=>none
 | k+1,x5,x6,x7,x184=>if x184=true then (none) else ((Y1.f k x5).bind fun t802=>(if t802=true then ((Y1.f k x6).bind fun t803=>(Y0.j2 k x5 x6 x7 (!t803))) else (Y0.j2 k x5 x6 x7 true)))
def Y0.j2:Nat→List (S49)→List (S49)→List (S49)→Bool→Option (Bool)
 | 0,_,_,_,_=>none
 | k+1,x5,x6,x7,x192=>if x192=true then (some true) else (Y0.l0 k x5 x6 x7 1)
def Y0.l0:Nat→List (S49)→List (S49)→List (S49)→Int→Option (Bool)
 | 0,_,_,_,_=>none
 | k+1,x5,x6,x7,x21=>if x21≤5 then ((Y33.f k x7 x21).bind fun t804=>((Y33.f k x5 x21).bind fun t805=>(if t804=t805 then (Y0.l0 k x5 x6 x7 (wrap64 (x21+1))) else ((Y33.f k x7 x21).bind fun t806=>((Y33.f k x6 x21).bind fun t807=>(if t806=t807 then (Y0.l0 k x5 x6 x7 (wrap64 (x21+1))) else (none))))))) else ((Y32.f k x5 x7).bind fun t808=>(if t808=true then ((Y32.f k x6 x7).bind fun t809=>(if t809=true then ((Y51.f k x6 x5).bind fun t810=>((Y6.f k x7 t810).bind fun t813=>(if t813=true then ((Y32.f k x5 x6).bind fun t814=>((Y6.f k x7 x6).bind fun t815=>(some (t814 == t815)))) else (none)))) else (none))) else (none)))
end
def Y0.f (k:Nat) (l0:List Int) (l1:List Int):Option (Bool):=if (l0.length:Int)>1048576 then (Y0.j0 k l0 l1 true) else (Y0.j0 k l0 l1 (decide ((l1.length:Int)>1048576)))
theorem Y0.mono_l:∀ k,(∀ y0 y1 y2,LeO (Y0.j0 k y0 y1 y2) (Y0.j0 (k+1) y0 y1 y2))∧(∀ y0 y1 y2 y3,LeO (Y0.j1 k y0 y1 y2 y3) (Y0.j1 (k+1) y0 y1 y2 y3))∧(∀ y0 y1 y2 y3,LeO (Y0.j2 k y0 y1 y2 y3) (Y0.j2 (k+1) y0 y1 y2 y3))∧(∀ y0 y1 y2 y3,LeO (Y0.l0 k y0 y1 y2 y3) (Y0.l0 (k+1) y0 y1 y2 y3))
 | 0=>by refine ⟨?_,?_,?_,?_⟩ <;> intros <;> exact LeO.none _
 | k+1=>by
  obtain ⟨ih0,ih1,ih2,ih3⟩:=Y0.mono_l k
  have m0:=@Y9.mono
  have m1:=@Y4.mono
  have m2:=@Y51.mono
  have m3:=@Y32.mono
  have m4:=@Y33.mono
  have m5:=@Y34.mono
  have m6:=@Y20.mono
  have m7:=@Y12.mono
  have m8:=@Y6.mono
  have m9:=@Y44.mono
  have m10:=@Y43.mono
  have m11:=@Y48.mono
  have m12:=@Y54.mono
  have m13:=@Y53.mono
  have m14:=@Y55.mono
  have m15:=@Y42.mono
  have m16:=@Y22.mono
  have m17:=@Y8.mono
  have m18:=@Y47.mono
  have m19:=@Y17.mono
  have m20:=@Y40.mono
  have m21:=@Y16.mono
  have m22:=@Y11.mono
  have m23:=@Y1.mono
  refine ⟨?_,?_,?_,?_⟩
  ·intros
   unfold Y0.j0
   exact mO
  ·intros
   unfold Y0.j1
   exact mO
  ·intros
   unfold Y0.j2
   exact mO
  ·intros
   unfold Y0.l0
   exact mO
theorem Y0.mono:∀ a0 a1 k,LeO (Y0.f k a0 a1) (Y0.f (k+1) a0 a1):=by
 intro a0 a1 k
 have m0:=@Y9.mono
 have m1:=@Y4.mono
 have m2:=@Y51.mono
 have m3:=@Y32.mono
 have m4:=@Y33.mono
 have m5:=@Y34.mono
 have m6:=@Y20.mono
 have m7:=@Y12.mono
 have m8:=@Y6.mono
 have m9:=@Y44.mono
 have m10:=@Y43.mono
 have m11:=@Y48.mono
 have m12:=@Y54.mono
 have m13:=@Y53.mono
 have m14:=@Y55.mono
 have m15:=@Y42.mono
 have m16:=@Y22.mono
 have m17:=@Y8.mono
 have m18:=@Y47.mono
 have m19:=@Y17.mono
 have m20:=@Y40.mono
 have m21:=@Y16.mono
 have m22:=@Y11.mono
 have m23:=@Y1.mono
 obtain ⟨ih0,ih1,ih2,ih3⟩:=Y0.mono_l k
 unfold Y0.f
 exact mO
def Y0.T14:Bool × List (List Nat × List Nat):=(true,[([],[]),([],[]),([],[]),([1,2],[1,2]),([0,3,3],[0,3]),([4],[4]),([5,4],[5]),([6],[6]),([6],[6]),([7,8,6,6],[6,7,8]),([6],[6]),([6],[6]),([10,11,9,6],[6,10,11]),([9,12,6],[6,9,12]),([6,13],[6,13]),([14,12],[14]),([15],[15]),([16,15],[15,16]),([15],[15]),([15],[15]),([18,19,15,15],[15,18,19]),([20,15],[15,20]),([17,21,15],[15,17,21]),([15,22],[15,22]),([23,20],[23]),([24],[24]),([25,24],[24,25]),([24],[24]),([24],[24]),([27,28,24,24],[24,27,28]),([29,24],[24,29]),([26,30,29,24],[24,26,30]),([31,24],[24,31]),([24,32],[24,32]),([33,31],[33]),([34],[34]),([34],[34]),([35,36,34,34],[34,35,36]),([34],[34]),([34],[34]),([38,39,37,34],[34,38,39]),([37,40,34],[34,37,40]),([34,41],[34,41]),([42,40],[42]),([43],[43]),([43],[43]),([44,45,43,43],[43,44,45]),([43],[43]),([43],[43]),([47,48,46,43],[43,47,48]),([46,49,43],[43,46,49]),([43,50],[43,50]),([51,49],[51]),([52],[52]),([52],[52]),([54,52,52],[52,54]),([53,55,52],[52,53,55]),([52,56],[52,56]),([57,55],[57]),([58],[58]),([59,58],[58,59]),([58],[58]),([61,58,58],[58,61]),([62,58],[58,62]),([60,63,58],[58,60,63]),([58,64],[58,64]),([65,62],[65]),([66],[66]),([67,66],[66,67]),([66],[66]),([69,66,66],[66,69]),([70,66],[66,70]),([68,71,70,66],[66,68,71]),([72,66],[66,72]),([66,73],[66,73]),([74,72],[74]),([75],[75]),([76,75,75],[75,76]),([75],[75]),([78,77,75],[75,78]),([77,79,75],[75,77,79]),([75,80],[75,80])])
def Y0.B14:List Nat:=[0,0,0,6,15,31,63,127,127,511,127,127,4095,8191,16383,32767,65535,131071,65535,65535,851967,1900543,4194303,8388607,16777215,33554431,67108863,33554431,33554431,436207615,973078527,2147483647,4294967295,8589934591,17179869183,34359738367,34359738367,137438953471,34359738367,34359738367,1099511627775,2199023255551,4398046511103,8796093022207,17592186044415,17592186044415,70368744177663,17592186044415,17592186044415,562949953421311,1125899906842623,2251799813685247,4503599627370495,9007199254740991,9007199254740991,27021597764222975,72057594037927935,144115188075855871,288230376151711743,576460752303423487,1152921504606846975,576460752303423487,2882303761517117439,7493989779944505343,18446744073709551615,36893488147419103231,73786976294838206463,147573952589676412927,295147905179352825855,147573952589676412927,737869762948382064639,1918461383665793368063,4722366482869645213695,9444732965739290427391,18889465931478580854783,37778931862957161709567,75557863725914323419135,151115727451828646838271,75557863725914323419135,604462909807314587353087,1208925819614629174706175,2417851639229258349412351]
theorem Y0.tab14:rtab .any (opsOf Try.f5 14)=Y0.T14:=by kernel_rfl
theorem Y0.bits14:waitsOk Y0.T14.2 Y0.B14=true:=by kernel_rfl
theorem Y0.calls (k:Nat) (A0:Option Addr) (c0:Nat) (l0:List Int) (A1:Option Addr) (c1:Nat) (l1:List Int) (r:Bool) (w:World) (hr0:Kd.C (Kd.int .u8) w A0 l0.length l0) (hc0:l0.length≤c0) (hr1:Kd.C (Kd.int .u8) w A1 l1.length l1) (hc1:l1.length≤c1) (h:Y0.f k l0 l1=some r) :
  Calls Try.prog 5 #[.slice A0 l0.length c0,.slice A1 l1.length c1] w fun e w'=>e = .returned (.bool r)∧Below w.heap.size w w':=by
 have hfd53_1:∀ (y0:Value) (y1:Int) (w:World),(Instr.field 53 (.agg #[y0,.int .i64 y1]) 1).run Try.prog w = .ok (.int .i64 y1) w:=fun _ _ _=>by kernel_rfl
 have hfd53_0:∀ (y0:Value) (y1:Int) (w:World),(Instr.field 53 (.agg #[y0,.int .i64 y1]) 0).run Try.prog w = .ok (y0) w:=fun _ _ _=>by kernel_rfl
 have hu49:=Try.underlying49
 have hu53:=Try.underlying53
 have HR0:=aM hr0
 have HC0:=aM hc0
 clear hr0 hc0
 have HR1:=aM hr1
 have HC1:=aM hc1
 clear hr1 hc1
 have HB:=aM (Below.refl w.heap.size w)
 have H:(if (l0.length:Int)>1048576 then (Y0.j0 k l0 l1 true) else (Y0.j0 k l0 l1 (decide ((l1.length:Int)>1048576))))=some r:=h
 clear h
 have HC3:=aM H
 clear H
 go_enter Try.func5,Try.ntmps5
 go_upto_region 1 with (fail)
 go_cut [29] (fun v29 wc=>∃ (kq:Nat) (x29_2:Bool),v29 = .bool x29_2∧Aside0 (Y0.j0 kq l0 l1 x29_2=some r)∧Aside0 (kq≤k)∧Aside0 (Below w.heap.size w wc))
 case first=>as_aux_lemma =>
  have H:=HC3.out
  clear HC3
  by_cases c4:(l0.length:Int)>1048576
  ·rw [if_pos c4] at H
   have c4b0:decide (1048576<(l0.length:Int))=true:=dE c4
   have c4b1:decide (1048576<l0.length)=true:=dE (by omega)
   clear c4
   (first | rw [c4b0] | (simp only [i64_w,i32_w];rw [c4b0]) | skip)
   have H':=aM H
   clear H
   go_wp2
   go_meet
   case rel=>exact ⟨_,(true),(z3_),H',⟨by first | omega | exact Nat.le_refl _⟩,⟨z1_ HB.out⟩⟩
  ·rw [if_neg c4] at H
   have c4b0:decide (1048576<(l0.length:Int))=false:=dF c4
   have c4b1:decide (1048576<l0.length)=false:=dF (by omega)
   clear c4
   (first | rw [c4b0] | (simp only [i64_w,i32_w];rw [c4b0]) | skip)
   have H':=aM H
   clear H
   go_wp2
   go_meet
   case rel=>exact ⟨_,(decide ((l1.length:Int)>1048576)),(z3_),H',⟨by first | omega | exact Nat.le_refl _⟩,⟨z1_ HB.out⟩⟩
 case rest=>as_aux_lemma =>
  clear HC3
  try clear c1
  try clear p2
  try clear c4
  try clear c4b0
  try clear c4b1
  obtain ⟨kq,x29_2,rfl,HA,HJ2,HB⟩:=hcut
  cases kq with
  | zero=>exact absurd HA.out (by simp [Y0.j0])
  | succ kj2 =>
   have H:=HA.out
   clear HA
   simp only [Y0.j0] at H
   by_cases c5:x29_2=true
   ·subst c5
    have H1:(some true)=some r:=by rw [if_pos rfl] at H;exact H
    clear H
    have H:=H1
    clear H1
    obtain rfl:=sI H
    go_wp2
    go_ret
    exact ⟨z5_,z1_ HB.out⟩
   ·replace c5:=Bool.eq_false_iff.mpr c5
    subst c5
    have H1:((Y48.f kj2 l0).bind fun bt714=>((Y51.f kj2 bt714.1 bt714.2).bind fun t720=>((Y54.f kj2 l1).bind fun bt723=>((Y55.f kj2 l1).bind fun bt729=>((Y34.f kj2 bt729.1 bt729.2.1 bt729.2.2).bind fun bt735=>((Y53.f kj2 l0).bind fun bt740=>((Y43.f kj2 l0).bind fun bt744=>((Y44.f kj2 l1).bind fun t750=>((Y9.f kj2 t750).bind fun t753=>((Y42.f kj2 l0).bind fun t754=>((Y20.f kj2 t754).bind fun bt755=>((Y47.f kj2 bt714.1 bt714.2).bind fun t760=>((Y6.f kj2 t720 t760).bind fun t763=>(if t763=true then ((Y32.f kj2 bt723.1 bt723.2).bind fun t764=>((Y17.f kj2 bt723.1 bt723.2).bind fun t765=>(if (t764 != t765)=true then (none) else ((Y16.f kj2 bt729.1 bt729.2.1 bt729.2.2).bind fun bt766=>(if bt735.2=bt766.2 then ((Y16.f kj2 bt729.1 bt729.2.1 bt729.2.2).bind fun bt770=>((Y6.f kj2 bt735.1 bt770.1).bind fun t774=>(if t774=true then ((Y33.f kj2 bt740.1 bt740.2).bind fun t775=>((Y40.f kj2 bt740.1 bt740.2).bind fun t776=>(if t775=t776 then ((Y4.f kj2 bt744.1 bt744.2.1 bt744.2.2).bind fun t777=>((Y8.f kj2 bt744.1 bt744.2.1 bt744.2.2).bind fun t778=>(if (t777 != t778)=true then (none) else ((Y22.f kj2 t750).bind fun t779=>(if t753.toList=t779.toList then ((Y11.f kj2 t754).bind fun bt780=>(if bt755.2=bt780.2 then ((Y11.f kj2 t754).bind fun bt784=>((Y6.f kj2 bt755.1 bt784.1).bind fun t788=>(if t788=true then ((Y12.f kj2 bt714.1).bind fun t789=>((Y1.f kj2 bt714.1).bind fun t790=>(if (t789 != t790)=true then (none) else (if t753.toList=([]:List UInt8) then (if bt755.2=0 then ((Y9.f kj2 bt755.1).bind fun t791=>(if t791.toList=t754.toList then (if bt735.2=0 then ((Y4.f kj2 bt735.1 bt729.2.1 bt729.2.2).bind fun t792=>(Y0.j1 kj2 bt714.1 bt714.2 t720 (!t792))) else (Y0.j1 kj2 bt714.1 bt714.2 t720 false)) else (none))) else (if bt735.2=0 then ((Y4.f kj2 bt735.1 bt729.2.1 bt729.2.2).bind fun t793=>(Y0.j1 kj2 bt714.1 bt714.2 t720 (!t793))) else (Y0.j1 kj2 bt714.1 bt714.2 t720 false))) else ((Y20.f kj2 t753).bind fun bt794=>((Y6.f kj2 bt794.1 t750).bind fun t798=>(if t798=true then (if bt755.2=0 then ((Y9.f kj2 bt755.1).bind fun t799=>(if t799.toList=t754.toList then (if bt735.2=0 then ((Y4.f kj2 bt735.1 bt729.2.1 bt729.2.2).bind fun t800=>(Y0.j1 kj2 bt714.1 bt714.2 t720 (!t800))) else (Y0.j1 kj2 bt714.1 bt714.2 t720 false)) else (none))) else (if bt735.2=0 then ((Y4.f kj2 bt735.1 bt729.2.1 bt729.2.2).bind fun t801=>(Y0.j1 kj2 bt714.1 bt714.2 t720 (!t801))) else (Y0.j1 kj2 bt714.1 bt714.2 t720 false))) else (none)))))))) else (none)))) else (none))) else (none)))))) else (none)))) else (none)))) else (none)))))) else (none)))))))))))))))=some r:=by rw [if_neg (show ¬ (false=true) by decide)] at H;exact H
    clear H
    have H:=H1
    clear H1
    replace H:=bS H
    obtain ⟨⟨t714,t715⟩,A60,H⟩:=H
    replace H:((Y51.f kj2 t714 t715).bind fun t720=>((Y54.f kj2 l1).bind fun bt723=>((Y55.f kj2 l1).bind fun bt729=>((Y34.f kj2 bt729.1 bt729.2.1 bt729.2.2).bind fun bt735=>((Y53.f kj2 l0).bind fun bt740=>((Y43.f kj2 l0).bind fun bt744=>((Y44.f kj2 l1).bind fun t750=>((Y9.f kj2 t750).bind fun t753=>((Y42.f kj2 l0).bind fun t754=>((Y20.f kj2 t754).bind fun bt755=>((Y47.f kj2 t714 t715).bind fun t760=>((Y6.f kj2 t720 t760).bind fun t763=>(if t763=true then ((Y32.f kj2 bt723.1 bt723.2).bind fun t764=>((Y17.f kj2 bt723.1 bt723.2).bind fun t765=>(if (t764 != t765)=true then (none) else ((Y16.f kj2 bt729.1 bt729.2.1 bt729.2.2).bind fun bt766=>(if bt735.2=bt766.2 then ((Y16.f kj2 bt729.1 bt729.2.1 bt729.2.2).bind fun bt770=>((Y6.f kj2 bt735.1 bt770.1).bind fun t774=>(if t774=true then ((Y33.f kj2 bt740.1 bt740.2).bind fun t775=>((Y40.f kj2 bt740.1 bt740.2).bind fun t776=>(if t775=t776 then ((Y4.f kj2 bt744.1 bt744.2.1 bt744.2.2).bind fun t777=>((Y8.f kj2 bt744.1 bt744.2.1 bt744.2.2).bind fun t778=>(if (t777 != t778)=true then (none) else ((Y22.f kj2 t750).bind fun t779=>(if t753.toList=t779.toList then ((Y11.f kj2 t754).bind fun bt780=>(if bt755.2=bt780.2 then ((Y11.f kj2 t754).bind fun bt784=>((Y6.f kj2 bt755.1 bt784.1).bind fun t788=>(if t788=true then ((Y12.f kj2 t714).bind fun t789=>((Y1.f kj2 t714).bind fun t790=>(if (t789 != t790)=true then (none) else (if t753.toList=([]:List UInt8) then (if bt755.2=0 then ((Y9.f kj2 bt755.1).bind fun t791=>(if t791.toList=t754.toList then (if bt735.2=0 then ((Y4.f kj2 bt735.1 bt729.2.1 bt729.2.2).bind fun t792=>(Y0.j1 kj2 t714 t715 t720 (!t792))) else (Y0.j1 kj2 t714 t715 t720 false)) else (none))) else (if bt735.2=0 then ((Y4.f kj2 bt735.1 bt729.2.1 bt729.2.2).bind fun t793=>(Y0.j1 kj2 t714 t715 t720 (!t793))) else (Y0.j1 kj2 t714 t715 t720 false))) else ((Y20.f kj2 t753).bind fun bt794=>((Y6.f kj2 bt794.1 t750).bind fun t798=>(if t798=true then (if bt755.2=0 then ((Y9.f kj2 bt755.1).bind fun t799=>(if t799.toList=t754.toList then (if bt735.2=0 then ((Y4.f kj2 bt735.1 bt729.2.1 bt729.2.2).bind fun t800=>(Y0.j1 kj2 t714 t715 t720 (!t800))) else (Y0.j1 kj2 t714 t715 t720 false)) else (none))) else (if bt735.2=0 then ((Y4.f kj2 bt735.1 bt729.2.1 bt729.2.2).bind fun t801=>(Y0.j1 kj2 t714 t715 t720 (!t801))) else (Y0.j1 kj2 t714 t715 t720 false))) else (none)))))))) else (none)))) else (none))) else (none)))))) else (none)))) else (none)))) else (none)))))) else (none))))))))))))))=some r:=H
    have A6:=aM A60
    clear A60
    replace H:=bS H
    obtain ⟨t720,A70,H⟩:=H
    replace H:((Y54.f kj2 l1).bind fun bt723=>((Y55.f kj2 l1).bind fun bt729=>((Y34.f kj2 bt729.1 bt729.2.1 bt729.2.2).bind fun bt735=>((Y53.f kj2 l0).bind fun bt740=>((Y43.f kj2 l0).bind fun bt744=>((Y44.f kj2 l1).bind fun t750=>((Y9.f kj2 t750).bind fun t753=>((Y42.f kj2 l0).bind fun t754=>((Y20.f kj2 t754).bind fun bt755=>((Y47.f kj2 t714 t715).bind fun t760=>((Y6.f kj2 t720 t760).bind fun t763=>(if t763=true then ((Y32.f kj2 bt723.1 bt723.2).bind fun t764=>((Y17.f kj2 bt723.1 bt723.2).bind fun t765=>(if (t764 != t765)=true then (none) else ((Y16.f kj2 bt729.1 bt729.2.1 bt729.2.2).bind fun bt766=>(if bt735.2=bt766.2 then ((Y16.f kj2 bt729.1 bt729.2.1 bt729.2.2).bind fun bt770=>((Y6.f kj2 bt735.1 bt770.1).bind fun t774=>(if t774=true then ((Y33.f kj2 bt740.1 bt740.2).bind fun t775=>((Y40.f kj2 bt740.1 bt740.2).bind fun t776=>(if t775=t776 then ((Y4.f kj2 bt744.1 bt744.2.1 bt744.2.2).bind fun t777=>((Y8.f kj2 bt744.1 bt744.2.1 bt744.2.2).bind fun t778=>(if (t777 != t778)=true then (none) else ((Y22.f kj2 t750).bind fun t779=>(if t753.toList=t779.toList then ((Y11.f kj2 t754).bind fun bt780=>(if bt755.2=bt780.2 then ((Y11.f kj2 t754).bind fun bt784=>((Y6.f kj2 bt755.1 bt784.1).bind fun t788=>(if t788=true then ((Y12.f kj2 t714).bind fun t789=>((Y1.f kj2 t714).bind fun t790=>(if (t789 != t790)=true then (none) else (if t753.toList=([]:List UInt8) then (if bt755.2=0 then ((Y9.f kj2 bt755.1).bind fun t791=>(if t791.toList=t754.toList then (if bt735.2=0 then ((Y4.f kj2 bt735.1 bt729.2.1 bt729.2.2).bind fun t792=>(Y0.j1 kj2 t714 t715 t720 (!t792))) else (Y0.j1 kj2 t714 t715 t720 false)) else (none))) else (if bt735.2=0 then ((Y4.f kj2 bt735.1 bt729.2.1 bt729.2.2).bind fun t793=>(Y0.j1 kj2 t714 t715 t720 (!t793))) else (Y0.j1 kj2 t714 t715 t720 false))) else ((Y20.f kj2 t753).bind fun bt794=>((Y6.f kj2 bt794.1 t750).bind fun t798=>(if t798=true then (if bt755.2=0 then ((Y9.f kj2 bt755.1).bind fun t799=>(if t799.toList=t754.toList then (if bt735.2=0 then ((Y4.f kj2 bt735.1 bt729.2.1 bt729.2.2).bind fun t800=>(Y0.j1 kj2 t714 t715 t720 (!t800))) else (Y0.j1 kj2 t714 t715 t720 false)) else (none))) else (if bt735.2=0 then ((Y4.f kj2 bt735.1 bt729.2.1 bt729.2.2).bind fun t801=>(Y0.j1 kj2 t714 t715 t720 (!t801))) else (Y0.j1 kj2 t714 t715 t720 false))) else (none)))))))) else (none)))) else (none))) else (none)))))) else (none)))) else (none)))) else (none)))))) else (none)))))))))))))=some r:=H
    have A7:=aM A70
    clear A70
    replace H:=bS H
    obtain ⟨⟨t723,t724⟩,A80,H⟩:=H
    replace H:((Y55.f kj2 l1).bind fun bt729=>((Y34.f kj2 bt729.1 bt729.2.1 bt729.2.2).bind fun bt735=>((Y53.f kj2 l0).bind fun bt740=>((Y43.f kj2 l0).bind fun bt744=>((Y44.f kj2 l1).bind fun t750=>((Y9.f kj2 t750).bind fun t753=>((Y42.f kj2 l0).bind fun t754=>((Y20.f kj2 t754).bind fun bt755=>((Y47.f kj2 t714 t715).bind fun t760=>((Y6.f kj2 t720 t760).bind fun t763=>(if t763=true then ((Y32.f kj2 t723 t724).bind fun t764=>((Y17.f kj2 t723 t724).bind fun t765=>(if (t764 != t765)=true then (none) else ((Y16.f kj2 bt729.1 bt729.2.1 bt729.2.2).bind fun bt766=>(if bt735.2=bt766.2 then ((Y16.f kj2 bt729.1 bt729.2.1 bt729.2.2).bind fun bt770=>((Y6.f kj2 bt735.1 bt770.1).bind fun t774=>(if t774=true then ((Y33.f kj2 bt740.1 bt740.2).bind fun t775=>((Y40.f kj2 bt740.1 bt740.2).bind fun t776=>(if t775=t776 then ((Y4.f kj2 bt744.1 bt744.2.1 bt744.2.2).bind fun t777=>((Y8.f kj2 bt744.1 bt744.2.1 bt744.2.2).bind fun t778=>(if (t777 != t778)=true then (none) else ((Y22.f kj2 t750).bind fun t779=>(if t753.toList=t779.toList then ((Y11.f kj2 t754).bind fun bt780=>(if bt755.2=bt780.2 then ((Y11.f kj2 t754).bind fun bt784=>((Y6.f kj2 bt755.1 bt784.1).bind fun t788=>(if t788=true then ((Y12.f kj2 t714).bind fun t789=>((Y1.f kj2 t714).bind fun t790=>(if (t789 != t790)=true then (none) else (if t753.toList=([]:List UInt8) then (if bt755.2=0 then ((Y9.f kj2 bt755.1).bind fun t791=>(if t791.toList=t754.toList then (if bt735.2=0 then ((Y4.f kj2 bt735.1 bt729.2.1 bt729.2.2).bind fun t792=>(Y0.j1 kj2 t714 t715 t720 (!t792))) else (Y0.j1 kj2 t714 t715 t720 false)) else (none))) else (if bt735.2=0 then ((Y4.f kj2 bt735.1 bt729.2.1 bt729.2.2).bind fun t793=>(Y0.j1 kj2 t714 t715 t720 (!t793))) else (Y0.j1 kj2 t714 t715 t720 false))) else ((Y20.f kj2 t753).bind fun bt794=>((Y6.f kj2 bt794.1 t750).bind fun t798=>(if t798=true then (if bt755.2=0 then ((Y9.f kj2 bt755.1).bind fun t799=>(if t799.toList=t754.toList then (if bt735.2=0 then ((Y4.f kj2 bt735.1 bt729.2.1 bt729.2.2).bind fun t800=>(Y0.j1 kj2 t714 t715 t720 (!t800))) else (Y0.j1 kj2 t714 t715 t720 false)) else (none))) else (if bt735.2=0 then ((Y4.f kj2 bt735.1 bt729.2.1 bt729.2.2).bind fun t801=>(Y0.j1 kj2 t714 t715 t720 (!t801))) else (Y0.j1 kj2 t714 t715 t720 false))) else (none)))))))) else (none)))) else (none))) else (none)))))) else (none)))) else (none)))) else (none)))))) else (none))))))))))))=some r:=H
    have A8:=aM A80
    clear A80
    replace H:=bS H
    obtain ⟨⟨t729,t732,t733⟩,A90,H⟩:=H
    replace H:((Y34.f kj2 t729 t732 t733).bind fun bt735=>((Y53.f kj2 l0).bind fun bt740=>((Y43.f kj2 l0).bind fun bt744=>((Y44.f kj2 l1).bind fun t750=>((Y9.f kj2 t750).bind fun t753=>((Y42.f kj2 l0).bind fun t754=>((Y20.f kj2 t754).bind fun bt755=>((Y47.f kj2 t714 t715).bind fun t760=>((Y6.f kj2 t720 t760).bind fun t763=>(if t763=true then ((Y32.f kj2 t723 t724).bind fun t764=>((Y17.f kj2 t723 t724).bind fun t765=>(if (t764 != t765)=true then (none) else ((Y16.f kj2 t729 t732 t733).bind fun bt766=>(if bt735.2=bt766.2 then ((Y16.f kj2 t729 t732 t733).bind fun bt770=>((Y6.f kj2 bt735.1 bt770.1).bind fun t774=>(if t774=true then ((Y33.f kj2 bt740.1 bt740.2).bind fun t775=>((Y40.f kj2 bt740.1 bt740.2).bind fun t776=>(if t775=t776 then ((Y4.f kj2 bt744.1 bt744.2.1 bt744.2.2).bind fun t777=>((Y8.f kj2 bt744.1 bt744.2.1 bt744.2.2).bind fun t778=>(if (t777 != t778)=true then (none) else ((Y22.f kj2 t750).bind fun t779=>(if t753.toList=t779.toList then ((Y11.f kj2 t754).bind fun bt780=>(if bt755.2=bt780.2 then ((Y11.f kj2 t754).bind fun bt784=>((Y6.f kj2 bt755.1 bt784.1).bind fun t788=>(if t788=true then ((Y12.f kj2 t714).bind fun t789=>((Y1.f kj2 t714).bind fun t790=>(if (t789 != t790)=true then (none) else (if t753.toList=([]:List UInt8) then (if bt755.2=0 then ((Y9.f kj2 bt755.1).bind fun t791=>(if t791.toList=t754.toList then (if bt735.2=0 then ((Y4.f kj2 bt735.1 t732 t733).bind fun t792=>(Y0.j1 kj2 t714 t715 t720 (!t792))) else (Y0.j1 kj2 t714 t715 t720 false)) else (none))) else (if bt735.2=0 then ((Y4.f kj2 bt735.1 t732 t733).bind fun t793=>(Y0.j1 kj2 t714 t715 t720 (!t793))) else (Y0.j1 kj2 t714 t715 t720 false))) else ((Y20.f kj2 t753).bind fun bt794=>((Y6.f kj2 bt794.1 t750).bind fun t798=>(if t798=true then (if bt755.2=0 then ((Y9.f kj2 bt755.1).bind fun t799=>(if t799.toList=t754.toList then (if bt735.2=0 then ((Y4.f kj2 bt735.1 t732 t733).bind fun t800=>(Y0.j1 kj2 t714 t715 t720 (!t800))) else (Y0.j1 kj2 t714 t715 t720 false)) else (none))) else (if bt735.2=0 then ((Y4.f kj2 bt735.1 t732 t733).bind fun t801=>(Y0.j1 kj2 t714 t715 t720 (!t801))) else (Y0.j1 kj2 t714 t715 t720 false))) else (none)))))))) else (none)))) else (none))) else (none)))))) else (none)))) else (none)))) else (none)))))) else (none)))))))))))=some r:=H
    have A9:=aM A90
    clear A90
    replace H:=bS H
    obtain ⟨⟨t735,t738⟩,A100,H⟩:=H
    replace H:((Y53.f kj2 l0).bind fun bt740=>((Y43.f kj2 l0).bind fun bt744=>((Y44.f kj2 l1).bind fun t750=>((Y9.f kj2 t750).bind fun t753=>((Y42.f kj2 l0).bind fun t754=>((Y20.f kj2 t754).bind fun bt755=>((Y47.f kj2 t714 t715).bind fun t760=>((Y6.f kj2 t720 t760).bind fun t763=>(if t763=true then ((Y32.f kj2 t723 t724).bind fun t764=>((Y17.f kj2 t723 t724).bind fun t765=>(if (t764 != t765)=true then (none) else ((Y16.f kj2 t729 t732 t733).bind fun bt766=>(if t738=bt766.2 then ((Y16.f kj2 t729 t732 t733).bind fun bt770=>((Y6.f kj2 t735 bt770.1).bind fun t774=>(if t774=true then ((Y33.f kj2 bt740.1 bt740.2).bind fun t775=>((Y40.f kj2 bt740.1 bt740.2).bind fun t776=>(if t775=t776 then ((Y4.f kj2 bt744.1 bt744.2.1 bt744.2.2).bind fun t777=>((Y8.f kj2 bt744.1 bt744.2.1 bt744.2.2).bind fun t778=>(if (t777 != t778)=true then (none) else ((Y22.f kj2 t750).bind fun t779=>(if t753.toList=t779.toList then ((Y11.f kj2 t754).bind fun bt780=>(if bt755.2=bt780.2 then ((Y11.f kj2 t754).bind fun bt784=>((Y6.f kj2 bt755.1 bt784.1).bind fun t788=>(if t788=true then ((Y12.f kj2 t714).bind fun t789=>((Y1.f kj2 t714).bind fun t790=>(if (t789 != t790)=true then (none) else (if t753.toList=([]:List UInt8) then (if bt755.2=0 then ((Y9.f kj2 bt755.1).bind fun t791=>(if t791.toList=t754.toList then (if t738=0 then ((Y4.f kj2 t735 t732 t733).bind fun t792=>(Y0.j1 kj2 t714 t715 t720 (!t792))) else (Y0.j1 kj2 t714 t715 t720 false)) else (none))) else (if t738=0 then ((Y4.f kj2 t735 t732 t733).bind fun t793=>(Y0.j1 kj2 t714 t715 t720 (!t793))) else (Y0.j1 kj2 t714 t715 t720 false))) else ((Y20.f kj2 t753).bind fun bt794=>((Y6.f kj2 bt794.1 t750).bind fun t798=>(if t798=true then (if bt755.2=0 then ((Y9.f kj2 bt755.1).bind fun t799=>(if t799.toList=t754.toList then (if t738=0 then ((Y4.f kj2 t735 t732 t733).bind fun t800=>(Y0.j1 kj2 t714 t715 t720 (!t800))) else (Y0.j1 kj2 t714 t715 t720 false)) else (none))) else (if t738=0 then ((Y4.f kj2 t735 t732 t733).bind fun t801=>(Y0.j1 kj2 t714 t715 t720 (!t801))) else (Y0.j1 kj2 t714 t715 t720 false))) else (none)))))))) else (none)))) else (none))) else (none)))))) else (none)))) else (none)))) else (none)))))) else (none))))))))))=some r:=H
    have A10:=aM A100
    clear A100
    replace H:=bS H
    obtain ⟨⟨t740,t741⟩,A110,H⟩:=H
    replace H:((Y43.f kj2 l0).bind fun bt744=>((Y44.f kj2 l1).bind fun t750=>((Y9.f kj2 t750).bind fun t753=>((Y42.f kj2 l0).bind fun t754=>((Y20.f kj2 t754).bind fun bt755=>((Y47.f kj2 t714 t715).bind fun t760=>((Y6.f kj2 t720 t760).bind fun t763=>(if t763=true then ((Y32.f kj2 t723 t724).bind fun t764=>((Y17.f kj2 t723 t724).bind fun t765=>(if (t764 != t765)=true then (none) else ((Y16.f kj2 t729 t732 t733).bind fun bt766=>(if t738=bt766.2 then ((Y16.f kj2 t729 t732 t733).bind fun bt770=>((Y6.f kj2 t735 bt770.1).bind fun t774=>(if t774=true then ((Y33.f kj2 t740 t741).bind fun t775=>((Y40.f kj2 t740 t741).bind fun t776=>(if t775=t776 then ((Y4.f kj2 bt744.1 bt744.2.1 bt744.2.2).bind fun t777=>((Y8.f kj2 bt744.1 bt744.2.1 bt744.2.2).bind fun t778=>(if (t777 != t778)=true then (none) else ((Y22.f kj2 t750).bind fun t779=>(if t753.toList=t779.toList then ((Y11.f kj2 t754).bind fun bt780=>(if bt755.2=bt780.2 then ((Y11.f kj2 t754).bind fun bt784=>((Y6.f kj2 bt755.1 bt784.1).bind fun t788=>(if t788=true then ((Y12.f kj2 t714).bind fun t789=>((Y1.f kj2 t714).bind fun t790=>(if (t789 != t790)=true then (none) else (if t753.toList=([]:List UInt8) then (if bt755.2=0 then ((Y9.f kj2 bt755.1).bind fun t791=>(if t791.toList=t754.toList then (if t738=0 then ((Y4.f kj2 t735 t732 t733).bind fun t792=>(Y0.j1 kj2 t714 t715 t720 (!t792))) else (Y0.j1 kj2 t714 t715 t720 false)) else (none))) else (if t738=0 then ((Y4.f kj2 t735 t732 t733).bind fun t793=>(Y0.j1 kj2 t714 t715 t720 (!t793))) else (Y0.j1 kj2 t714 t715 t720 false))) else ((Y20.f kj2 t753).bind fun bt794=>((Y6.f kj2 bt794.1 t750).bind fun t798=>(if t798=true then (if bt755.2=0 then ((Y9.f kj2 bt755.1).bind fun t799=>(if t799.toList=t754.toList then (if t738=0 then ((Y4.f kj2 t735 t732 t733).bind fun t800=>(Y0.j1 kj2 t714 t715 t720 (!t800))) else (Y0.j1 kj2 t714 t715 t720 false)) else (none))) else (if t738=0 then ((Y4.f kj2 t735 t732 t733).bind fun t801=>(Y0.j1 kj2 t714 t715 t720 (!t801))) else (Y0.j1 kj2 t714 t715 t720 false))) else (none)))))))) else (none)))) else (none))) else (none)))))) else (none)))) else (none)))) else (none)))))) else (none)))))))))=some r:=H
    have A11:=aM A110
    clear A110
    replace H:=bS H
    obtain ⟨⟨t744,t747,t748⟩,A120,H⟩:=H
    replace H:((Y44.f kj2 l1).bind fun t750=>((Y9.f kj2 t750).bind fun t753=>((Y42.f kj2 l0).bind fun t754=>((Y20.f kj2 t754).bind fun bt755=>((Y47.f kj2 t714 t715).bind fun t760=>((Y6.f kj2 t720 t760).bind fun t763=>(if t763=true then ((Y32.f kj2 t723 t724).bind fun t764=>((Y17.f kj2 t723 t724).bind fun t765=>(if (t764 != t765)=true then (none) else ((Y16.f kj2 t729 t732 t733).bind fun bt766=>(if t738=bt766.2 then ((Y16.f kj2 t729 t732 t733).bind fun bt770=>((Y6.f kj2 t735 bt770.1).bind fun t774=>(if t774=true then ((Y33.f kj2 t740 t741).bind fun t775=>((Y40.f kj2 t740 t741).bind fun t776=>(if t775=t776 then ((Y4.f kj2 t744 t747 t748).bind fun t777=>((Y8.f kj2 t744 t747 t748).bind fun t778=>(if (t777 != t778)=true then (none) else ((Y22.f kj2 t750).bind fun t779=>(if t753.toList=t779.toList then ((Y11.f kj2 t754).bind fun bt780=>(if bt755.2=bt780.2 then ((Y11.f kj2 t754).bind fun bt784=>((Y6.f kj2 bt755.1 bt784.1).bind fun t788=>(if t788=true then ((Y12.f kj2 t714).bind fun t789=>((Y1.f kj2 t714).bind fun t790=>(if (t789 != t790)=true then (none) else (if t753.toList=([]:List UInt8) then (if bt755.2=0 then ((Y9.f kj2 bt755.1).bind fun t791=>(if t791.toList=t754.toList then (if t738=0 then ((Y4.f kj2 t735 t732 t733).bind fun t792=>(Y0.j1 kj2 t714 t715 t720 (!t792))) else (Y0.j1 kj2 t714 t715 t720 false)) else (none))) else (if t738=0 then ((Y4.f kj2 t735 t732 t733).bind fun t793=>(Y0.j1 kj2 t714 t715 t720 (!t793))) else (Y0.j1 kj2 t714 t715 t720 false))) else ((Y20.f kj2 t753).bind fun bt794=>((Y6.f kj2 bt794.1 t750).bind fun t798=>(if t798=true then (if bt755.2=0 then ((Y9.f kj2 bt755.1).bind fun t799=>(if t799.toList=t754.toList then (if t738=0 then ((Y4.f kj2 t735 t732 t733).bind fun t800=>(Y0.j1 kj2 t714 t715 t720 (!t800))) else (Y0.j1 kj2 t714 t715 t720 false)) else (none))) else (if t738=0 then ((Y4.f kj2 t735 t732 t733).bind fun t801=>(Y0.j1 kj2 t714 t715 t720 (!t801))) else (Y0.j1 kj2 t714 t715 t720 false))) else (none)))))))) else (none)))) else (none))) else (none)))))) else (none)))) else (none)))) else (none)))))) else (none))))))))=some r:=H
    have A12:=aM A120
    clear A120
    replace H:=bS H
    obtain ⟨t750,A130,H⟩:=H
    replace H:((Y9.f kj2 t750).bind fun t753=>((Y42.f kj2 l0).bind fun t754=>((Y20.f kj2 t754).bind fun bt755=>((Y47.f kj2 t714 t715).bind fun t760=>((Y6.f kj2 t720 t760).bind fun t763=>(if t763=true then ((Y32.f kj2 t723 t724).bind fun t764=>((Y17.f kj2 t723 t724).bind fun t765=>(if (t764 != t765)=true then (none) else ((Y16.f kj2 t729 t732 t733).bind fun bt766=>(if t738=bt766.2 then ((Y16.f kj2 t729 t732 t733).bind fun bt770=>((Y6.f kj2 t735 bt770.1).bind fun t774=>(if t774=true then ((Y33.f kj2 t740 t741).bind fun t775=>((Y40.f kj2 t740 t741).bind fun t776=>(if t775=t776 then ((Y4.f kj2 t744 t747 t748).bind fun t777=>((Y8.f kj2 t744 t747 t748).bind fun t778=>(if (t777 != t778)=true then (none) else ((Y22.f kj2 t750).bind fun t779=>(if t753.toList=t779.toList then ((Y11.f kj2 t754).bind fun bt780=>(if bt755.2=bt780.2 then ((Y11.f kj2 t754).bind fun bt784=>((Y6.f kj2 bt755.1 bt784.1).bind fun t788=>(if t788=true then ((Y12.f kj2 t714).bind fun t789=>((Y1.f kj2 t714).bind fun t790=>(if (t789 != t790)=true then (none) else (if t753.toList=([]:List UInt8) then (if bt755.2=0 then ((Y9.f kj2 bt755.1).bind fun t791=>(if t791.toList=t754.toList then (if t738=0 then ((Y4.f kj2 t735 t732 t733).bind fun t792=>(Y0.j1 kj2 t714 t715 t720 (!t792))) else (Y0.j1 kj2 t714 t715 t720 false)) else (none))) else (if t738=0 then ((Y4.f kj2 t735 t732 t733).bind fun t793=>(Y0.j1 kj2 t714 t715 t720 (!t793))) else (Y0.j1 kj2 t714 t715 t720 false))) else ((Y20.f kj2 t753).bind fun bt794=>((Y6.f kj2 bt794.1 t750).bind fun t798=>(if t798=true then (if bt755.2=0 then ((Y9.f kj2 bt755.1).bind fun t799=>(if t799.toList=t754.toList then (if t738=0 then ((Y4.f kj2 t735 t732 t733).bind fun t800=>(Y0.j1 kj2 t714 t715 t720 (!t800))) else (Y0.j1 kj2 t714 t715 t720 false)) else (none))) else (if t738=0 then ((Y4.f kj2 t735 t732 t733).bind fun t801=>(Y0.j1 kj2 t714 t715 t720 (!t801))) else (Y0.j1 kj2 t714 t715 t720 false))) else (none)))))))) else (none)))) else (none))) else (none)))))) else (none)))) else (none)))) else (none)))))) else (none)))))))=some r:=H
    have A13:=aM A130
    clear A130
    replace H:=bS H
    obtain ⟨t753,A140,H⟩:=H
    replace H:((Y42.f kj2 l0).bind fun t754=>((Y20.f kj2 t754).bind fun bt755=>((Y47.f kj2 t714 t715).bind fun t760=>((Y6.f kj2 t720 t760).bind fun t763=>(if t763=true then ((Y32.f kj2 t723 t724).bind fun t764=>((Y17.f kj2 t723 t724).bind fun t765=>(if (t764 != t765)=true then (none) else ((Y16.f kj2 t729 t732 t733).bind fun bt766=>(if t738=bt766.2 then ((Y16.f kj2 t729 t732 t733).bind fun bt770=>((Y6.f kj2 t735 bt770.1).bind fun t774=>(if t774=true then ((Y33.f kj2 t740 t741).bind fun t775=>((Y40.f kj2 t740 t741).bind fun t776=>(if t775=t776 then ((Y4.f kj2 t744 t747 t748).bind fun t777=>((Y8.f kj2 t744 t747 t748).bind fun t778=>(if (t777 != t778)=true then (none) else ((Y22.f kj2 t750).bind fun t779=>(if t753.toList=t779.toList then ((Y11.f kj2 t754).bind fun bt780=>(if bt755.2=bt780.2 then ((Y11.f kj2 t754).bind fun bt784=>((Y6.f kj2 bt755.1 bt784.1).bind fun t788=>(if t788=true then ((Y12.f kj2 t714).bind fun t789=>((Y1.f kj2 t714).bind fun t790=>(if (t789 != t790)=true then (none) else (if t753.toList=([]:List UInt8) then (if bt755.2=0 then ((Y9.f kj2 bt755.1).bind fun t791=>(if t791.toList=t754.toList then (if t738=0 then ((Y4.f kj2 t735 t732 t733).bind fun t792=>(Y0.j1 kj2 t714 t715 t720 (!t792))) else (Y0.j1 kj2 t714 t715 t720 false)) else (none))) else (if t738=0 then ((Y4.f kj2 t735 t732 t733).bind fun t793=>(Y0.j1 kj2 t714 t715 t720 (!t793))) else (Y0.j1 kj2 t714 t715 t720 false))) else ((Y20.f kj2 t753).bind fun bt794=>((Y6.f kj2 bt794.1 t750).bind fun t798=>(if t798=true then (if bt755.2=0 then ((Y9.f kj2 bt755.1).bind fun t799=>(if t799.toList=t754.toList then (if t738=0 then ((Y4.f kj2 t735 t732 t733).bind fun t800=>(Y0.j1 kj2 t714 t715 t720 (!t800))) else (Y0.j1 kj2 t714 t715 t720 false)) else (none))) else (if t738=0 then ((Y4.f kj2 t735 t732 t733).bind fun t801=>(Y0.j1 kj2 t714 t715 t720 (!t801))) else (Y0.j1 kj2 t714 t715 t720 false))) else (none)))))))) else (none)))) else (none))) else (none)))))) else (none)))) else (none)))) else (none)))))) else (none))))))=some r:=H
    have A14:=aM A140
    clear A140
    replace H:=bS H
    obtain ⟨t754,A150,H⟩:=H
    replace H:((Y20.f kj2 t754).bind fun bt755=>((Y47.f kj2 t714 t715).bind fun t760=>((Y6.f kj2 t720 t760).bind fun t763=>(if t763=true then ((Y32.f kj2 t723 t724).bind fun t764=>((Y17.f kj2 t723 t724).bind fun t765=>(if (t764 != t765)=true then (none) else ((Y16.f kj2 t729 t732 t733).bind fun bt766=>(if t738=bt766.2 then ((Y16.f kj2 t729 t732 t733).bind fun bt770=>((Y6.f kj2 t735 bt770.1).bind fun t774=>(if t774=true then ((Y33.f kj2 t740 t741).bind fun t775=>((Y40.f kj2 t740 t741).bind fun t776=>(if t775=t776 then ((Y4.f kj2 t744 t747 t748).bind fun t777=>((Y8.f kj2 t744 t747 t748).bind fun t778=>(if (t777 != t778)=true then (none) else ((Y22.f kj2 t750).bind fun t779=>(if t753.toList=t779.toList then ((Y11.f kj2 t754).bind fun bt780=>(if bt755.2=bt780.2 then ((Y11.f kj2 t754).bind fun bt784=>((Y6.f kj2 bt755.1 bt784.1).bind fun t788=>(if t788=true then ((Y12.f kj2 t714).bind fun t789=>((Y1.f kj2 t714).bind fun t790=>(if (t789 != t790)=true then (none) else (if t753.toList=([]:List UInt8) then (if bt755.2=0 then ((Y9.f kj2 bt755.1).bind fun t791=>(if t791.toList=t754.toList then (if t738=0 then ((Y4.f kj2 t735 t732 t733).bind fun t792=>(Y0.j1 kj2 t714 t715 t720 (!t792))) else (Y0.j1 kj2 t714 t715 t720 false)) else (none))) else (if t738=0 then ((Y4.f kj2 t735 t732 t733).bind fun t793=>(Y0.j1 kj2 t714 t715 t720 (!t793))) else (Y0.j1 kj2 t714 t715 t720 false))) else ((Y20.f kj2 t753).bind fun bt794=>((Y6.f kj2 bt794.1 t750).bind fun t798=>(if t798=true then (if bt755.2=0 then ((Y9.f kj2 bt755.1).bind fun t799=>(if t799.toList=t754.toList then (if t738=0 then ((Y4.f kj2 t735 t732 t733).bind fun t800=>(Y0.j1 kj2 t714 t715 t720 (!t800))) else (Y0.j1 kj2 t714 t715 t720 false)) else (none))) else (if t738=0 then ((Y4.f kj2 t735 t732 t733).bind fun t801=>(Y0.j1 kj2 t714 t715 t720 (!t801))) else (Y0.j1 kj2 t714 t715 t720 false))) else (none)))))))) else (none)))) else (none))) else (none)))))) else (none)))) else (none)))) else (none)))))) else (none)))))=some r:=H
    have A15:=aM A150
    clear A150
    replace H:=bS H
    obtain ⟨⟨t755,t758⟩,A160,H⟩:=H
    replace H:((Y47.f kj2 t714 t715).bind fun t760=>((Y6.f kj2 t720 t760).bind fun t763=>(if t763=true then ((Y32.f kj2 t723 t724).bind fun t764=>((Y17.f kj2 t723 t724).bind fun t765=>(if (t764 != t765)=true then (none) else ((Y16.f kj2 t729 t732 t733).bind fun bt766=>(if t738=bt766.2 then ((Y16.f kj2 t729 t732 t733).bind fun bt770=>((Y6.f kj2 t735 bt770.1).bind fun t774=>(if t774=true then ((Y33.f kj2 t740 t741).bind fun t775=>((Y40.f kj2 t740 t741).bind fun t776=>(if t775=t776 then ((Y4.f kj2 t744 t747 t748).bind fun t777=>((Y8.f kj2 t744 t747 t748).bind fun t778=>(if (t777 != t778)=true then (none) else ((Y22.f kj2 t750).bind fun t779=>(if t753.toList=t779.toList then ((Y11.f kj2 t754).bind fun bt780=>(if t758=bt780.2 then ((Y11.f kj2 t754).bind fun bt784=>((Y6.f kj2 t755 bt784.1).bind fun t788=>(if t788=true then ((Y12.f kj2 t714).bind fun t789=>((Y1.f kj2 t714).bind fun t790=>(if (t789 != t790)=true then (none) else (if t753.toList=([]:List UInt8) then (if t758=0 then ((Y9.f kj2 t755).bind fun t791=>(if t791.toList=t754.toList then (if t738=0 then ((Y4.f kj2 t735 t732 t733).bind fun t792=>(Y0.j1 kj2 t714 t715 t720 (!t792))) else (Y0.j1 kj2 t714 t715 t720 false)) else (none))) else (if t738=0 then ((Y4.f kj2 t735 t732 t733).bind fun t793=>(Y0.j1 kj2 t714 t715 t720 (!t793))) else (Y0.j1 kj2 t714 t715 t720 false))) else ((Y20.f kj2 t753).bind fun bt794=>((Y6.f kj2 bt794.1 t750).bind fun t798=>(if t798=true then (if t758=0 then ((Y9.f kj2 t755).bind fun t799=>(if t799.toList=t754.toList then (if t738=0 then ((Y4.f kj2 t735 t732 t733).bind fun t800=>(Y0.j1 kj2 t714 t715 t720 (!t800))) else (Y0.j1 kj2 t714 t715 t720 false)) else (none))) else (if t738=0 then ((Y4.f kj2 t735 t732 t733).bind fun t801=>(Y0.j1 kj2 t714 t715 t720 (!t801))) else (Y0.j1 kj2 t714 t715 t720 false))) else (none)))))))) else (none)))) else (none))) else (none)))))) else (none)))) else (none)))) else (none)))))) else (none))))=some r:=H
    have A16:=aM A160
    clear A160
    replace H:=bS H
    obtain ⟨t760,A170,H⟩:=H
    replace H:((Y6.f kj2 t720 t760).bind fun t763=>(if t763=true then ((Y32.f kj2 t723 t724).bind fun t764=>((Y17.f kj2 t723 t724).bind fun t765=>(if (t764 != t765)=true then (none) else ((Y16.f kj2 t729 t732 t733).bind fun bt766=>(if t738=bt766.2 then ((Y16.f kj2 t729 t732 t733).bind fun bt770=>((Y6.f kj2 t735 bt770.1).bind fun t774=>(if t774=true then ((Y33.f kj2 t740 t741).bind fun t775=>((Y40.f kj2 t740 t741).bind fun t776=>(if t775=t776 then ((Y4.f kj2 t744 t747 t748).bind fun t777=>((Y8.f kj2 t744 t747 t748).bind fun t778=>(if (t777 != t778)=true then (none) else ((Y22.f kj2 t750).bind fun t779=>(if t753.toList=t779.toList then ((Y11.f kj2 t754).bind fun bt780=>(if t758=bt780.2 then ((Y11.f kj2 t754).bind fun bt784=>((Y6.f kj2 t755 bt784.1).bind fun t788=>(if t788=true then ((Y12.f kj2 t714).bind fun t789=>((Y1.f kj2 t714).bind fun t790=>(if (t789 != t790)=true then (none) else (if t753.toList=([]:List UInt8) then (if t758=0 then ((Y9.f kj2 t755).bind fun t791=>(if t791.toList=t754.toList then (if t738=0 then ((Y4.f kj2 t735 t732 t733).bind fun t792=>(Y0.j1 kj2 t714 t715 t720 (!t792))) else (Y0.j1 kj2 t714 t715 t720 false)) else (none))) else (if t738=0 then ((Y4.f kj2 t735 t732 t733).bind fun t793=>(Y0.j1 kj2 t714 t715 t720 (!t793))) else (Y0.j1 kj2 t714 t715 t720 false))) else ((Y20.f kj2 t753).bind fun bt794=>((Y6.f kj2 bt794.1 t750).bind fun t798=>(if t798=true then (if t758=0 then ((Y9.f kj2 t755).bind fun t799=>(if t799.toList=t754.toList then (if t738=0 then ((Y4.f kj2 t735 t732 t733).bind fun t800=>(Y0.j1 kj2 t714 t715 t720 (!t800))) else (Y0.j1 kj2 t714 t715 t720 false)) else (none))) else (if t738=0 then ((Y4.f kj2 t735 t732 t733).bind fun t801=>(Y0.j1 kj2 t714 t715 t720 (!t801))) else (Y0.j1 kj2 t714 t715 t720 false))) else (none)))))))) else (none)))) else (none))) else (none)))))) else (none)))) else (none)))) else (none)))))) else (none)))=some r:=H
    have A17:=aM A170
    clear A170
    replace H:=bS H
    obtain ⟨t763,A180,H⟩:=H
    replace H:(if t763=true then ((Y32.f kj2 t723 t724).bind fun t764=>((Y17.f kj2 t723 t724).bind fun t765=>(if (t764 != t765)=true then (none) else ((Y16.f kj2 t729 t732 t733).bind fun bt766=>(if t738=bt766.2 then ((Y16.f kj2 t729 t732 t733).bind fun bt770=>((Y6.f kj2 t735 bt770.1).bind fun t774=>(if t774=true then ((Y33.f kj2 t740 t741).bind fun t775=>((Y40.f kj2 t740 t741).bind fun t776=>(if t775=t776 then ((Y4.f kj2 t744 t747 t748).bind fun t777=>((Y8.f kj2 t744 t747 t748).bind fun t778=>(if (t777 != t778)=true then (none) else ((Y22.f kj2 t750).bind fun t779=>(if t753.toList=t779.toList then ((Y11.f kj2 t754).bind fun bt780=>(if t758=bt780.2 then ((Y11.f kj2 t754).bind fun bt784=>((Y6.f kj2 t755 bt784.1).bind fun t788=>(if t788=true then ((Y12.f kj2 t714).bind fun t789=>((Y1.f kj2 t714).bind fun t790=>(if (t789 != t790)=true then (none) else (if t753.toList=([]:List UInt8) then (if t758=0 then ((Y9.f kj2 t755).bind fun t791=>(if t791.toList=t754.toList then (if t738=0 then ((Y4.f kj2 t735 t732 t733).bind fun t792=>(Y0.j1 kj2 t714 t715 t720 (!t792))) else (Y0.j1 kj2 t714 t715 t720 false)) else (none))) else (if t738=0 then ((Y4.f kj2 t735 t732 t733).bind fun t793=>(Y0.j1 kj2 t714 t715 t720 (!t793))) else (Y0.j1 kj2 t714 t715 t720 false))) else ((Y20.f kj2 t753).bind fun bt794=>((Y6.f kj2 bt794.1 t750).bind fun t798=>(if t798=true then (if t758=0 then ((Y9.f kj2 t755).bind fun t799=>(if t799.toList=t754.toList then (if t738=0 then ((Y4.f kj2 t735 t732 t733).bind fun t800=>(Y0.j1 kj2 t714 t715 t720 (!t800))) else (Y0.j1 kj2 t714 t715 t720 false)) else (none))) else (if t738=0 then ((Y4.f kj2 t735 t732 t733).bind fun t801=>(Y0.j1 kj2 t714 t715 t720 (!t801))) else (Y0.j1 kj2 t714 t715 t720 false))) else (none)))))))) else (none)))) else (none))) else (none)))))) else (none)))) else (none)))) else (none)))))) else (none))=some r:=H
    have A18:=aM A180
    clear A180
    by_cases c19:t763=true
    ·subst c19
     have H1:((Y32.f kj2 t723 t724).bind fun t764=>((Y17.f kj2 t723 t724).bind fun t765=>(if (t764 != t765)=true then (none) else ((Y16.f kj2 t729 t732 t733).bind fun bt766=>(if t738=bt766.2 then ((Y16.f kj2 t729 t732 t733).bind fun bt770=>((Y6.f kj2 t735 bt770.1).bind fun t774=>(if t774=true then ((Y33.f kj2 t740 t741).bind fun t775=>((Y40.f kj2 t740 t741).bind fun t776=>(if t775=t776 then ((Y4.f kj2 t744 t747 t748).bind fun t777=>((Y8.f kj2 t744 t747 t748).bind fun t778=>(if (t777 != t778)=true then (none) else ((Y22.f kj2 t750).bind fun t779=>(if t753.toList=t779.toList then ((Y11.f kj2 t754).bind fun bt780=>(if t758=bt780.2 then ((Y11.f kj2 t754).bind fun bt784=>((Y6.f kj2 t755 bt784.1).bind fun t788=>(if t788=true then ((Y12.f kj2 t714).bind fun t789=>((Y1.f kj2 t714).bind fun t790=>(if (t789 != t790)=true then (none) else (if t753.toList=([]:List UInt8) then (if t758=0 then ((Y9.f kj2 t755).bind fun t791=>(if t791.toList=t754.toList then (if t738=0 then ((Y4.f kj2 t735 t732 t733).bind fun t792=>(Y0.j1 kj2 t714 t715 t720 (!t792))) else (Y0.j1 kj2 t714 t715 t720 false)) else (none))) else (if t738=0 then ((Y4.f kj2 t735 t732 t733).bind fun t793=>(Y0.j1 kj2 t714 t715 t720 (!t793))) else (Y0.j1 kj2 t714 t715 t720 false))) else ((Y20.f kj2 t753).bind fun bt794=>((Y6.f kj2 bt794.1 t750).bind fun t798=>(if t798=true then (if t758=0 then ((Y9.f kj2 t755).bind fun t799=>(if t799.toList=t754.toList then (if t738=0 then ((Y4.f kj2 t735 t732 t733).bind fun t800=>(Y0.j1 kj2 t714 t715 t720 (!t800))) else (Y0.j1 kj2 t714 t715 t720 false)) else (none))) else (if t738=0 then ((Y4.f kj2 t735 t732 t733).bind fun t801=>(Y0.j1 kj2 t714 t715 t720 (!t801))) else (Y0.j1 kj2 t714 t715 t720 false))) else (none)))))))) else (none)))) else (none))) else (none)))))) else (none)))) else (none)))) else (none))))))=some r:=by rw [if_pos rfl] at H;exact H
     clear H
     have H:=H1
     clear H1
     replace H:=bS H
     obtain ⟨t764,A200,H⟩:=H
     replace H:((Y17.f kj2 t723 t724).bind fun t765=>(if (t764 != t765)=true then (none) else ((Y16.f kj2 t729 t732 t733).bind fun bt766=>(if t738=bt766.2 then ((Y16.f kj2 t729 t732 t733).bind fun bt770=>((Y6.f kj2 t735 bt770.1).bind fun t774=>(if t774=true then ((Y33.f kj2 t740 t741).bind fun t775=>((Y40.f kj2 t740 t741).bind fun t776=>(if t775=t776 then ((Y4.f kj2 t744 t747 t748).bind fun t777=>((Y8.f kj2 t744 t747 t748).bind fun t778=>(if (t777 != t778)=true then (none) else ((Y22.f kj2 t750).bind fun t779=>(if t753.toList=t779.toList then ((Y11.f kj2 t754).bind fun bt780=>(if t758=bt780.2 then ((Y11.f kj2 t754).bind fun bt784=>((Y6.f kj2 t755 bt784.1).bind fun t788=>(if t788=true then ((Y12.f kj2 t714).bind fun t789=>((Y1.f kj2 t714).bind fun t790=>(if (t789 != t790)=true then (none) else (if t753.toList=([]:List UInt8) then (if t758=0 then ((Y9.f kj2 t755).bind fun t791=>(if t791.toList=t754.toList then (if t738=0 then ((Y4.f kj2 t735 t732 t733).bind fun t792=>(Y0.j1 kj2 t714 t715 t720 (!t792))) else (Y0.j1 kj2 t714 t715 t720 false)) else (none))) else (if t738=0 then ((Y4.f kj2 t735 t732 t733).bind fun t793=>(Y0.j1 kj2 t714 t715 t720 (!t793))) else (Y0.j1 kj2 t714 t715 t720 false))) else ((Y20.f kj2 t753).bind fun bt794=>((Y6.f kj2 bt794.1 t750).bind fun t798=>(if t798=true then (if t758=0 then ((Y9.f kj2 t755).bind fun t799=>(if t799.toList=t754.toList then (if t738=0 then ((Y4.f kj2 t735 t732 t733).bind fun t800=>(Y0.j1 kj2 t714 t715 t720 (!t800))) else (Y0.j1 kj2 t714 t715 t720 false)) else (none))) else (if t738=0 then ((Y4.f kj2 t735 t732 t733).bind fun t801=>(Y0.j1 kj2 t714 t715 t720 (!t801))) else (Y0.j1 kj2 t714 t715 t720 false))) else (none)))))))) else (none)))) else (none))) else (none)))))) else (none)))) else (none)))) else (none)))))=some r:=H
     have A20:=aM A200
     clear A200
     replace H:=bS H
     obtain ⟨t765,A210,H⟩:=H
     replace H:(if (t764 != t765)=true then (none) else ((Y16.f kj2 t729 t732 t733).bind fun bt766=>(if t738=bt766.2 then ((Y16.f kj2 t729 t732 t733).bind fun bt770=>((Y6.f kj2 t735 bt770.1).bind fun t774=>(if t774=true then ((Y33.f kj2 t740 t741).bind fun t775=>((Y40.f kj2 t740 t741).bind fun t776=>(if t775=t776 then ((Y4.f kj2 t744 t747 t748).bind fun t777=>((Y8.f kj2 t744 t747 t748).bind fun t778=>(if (t777 != t778)=true then (none) else ((Y22.f kj2 t750).bind fun t779=>(if t753.toList=t779.toList then ((Y11.f kj2 t754).bind fun bt780=>(if t758=bt780.2 then ((Y11.f kj2 t754).bind fun bt784=>((Y6.f kj2 t755 bt784.1).bind fun t788=>(if t788=true then ((Y12.f kj2 t714).bind fun t789=>((Y1.f kj2 t714).bind fun t790=>(if (t789 != t790)=true then (none) else (if t753.toList=([]:List UInt8) then (if t758=0 then ((Y9.f kj2 t755).bind fun t791=>(if t791.toList=t754.toList then (if t738=0 then ((Y4.f kj2 t735 t732 t733).bind fun t792=>(Y0.j1 kj2 t714 t715 t720 (!t792))) else (Y0.j1 kj2 t714 t715 t720 false)) else (none))) else (if t738=0 then ((Y4.f kj2 t735 t732 t733).bind fun t793=>(Y0.j1 kj2 t714 t715 t720 (!t793))) else (Y0.j1 kj2 t714 t715 t720 false))) else ((Y20.f kj2 t753).bind fun bt794=>((Y6.f kj2 bt794.1 t750).bind fun t798=>(if t798=true then (if t758=0 then ((Y9.f kj2 t755).bind fun t799=>(if t799.toList=t754.toList then (if t738=0 then ((Y4.f kj2 t735 t732 t733).bind fun t800=>(Y0.j1 kj2 t714 t715 t720 (!t800))) else (Y0.j1 kj2 t714 t715 t720 false)) else (none))) else (if t738=0 then ((Y4.f kj2 t735 t732 t733).bind fun t801=>(Y0.j1 kj2 t714 t715 t720 (!t801))) else (Y0.j1 kj2 t714 t715 t720 false))) else (none)))))))) else (none)))) else (none))) else (none)))))) else (none)))) else (none)))) else (none))))=some r:=H
     have A21:=aM A210
     clear A210
     by_cases c22:(t764 != t765)=true
     ·rw [if_pos c22] at H
      exact nO H
     ·rw [if_neg c22] at H
      have c22b0:(t764 != t765)=false:=by simpa using c22
      (try (have c22b1:decide (t764=t765)=true:=by simpa using c22))
      (try (have c22b2:(t764 == t765)=true:=by simpa using c22))
      clear c22
      replace H:=bS H
      obtain ⟨⟨t766,t769⟩,A230,H⟩:=H
      replace H:(if t738=t769 then ((Y16.f kj2 t729 t732 t733).bind fun bt770=>((Y6.f kj2 t735 bt770.1).bind fun t774=>(if t774=true then ((Y33.f kj2 t740 t741).bind fun t775=>((Y40.f kj2 t740 t741).bind fun t776=>(if t775=t776 then ((Y4.f kj2 t744 t747 t748).bind fun t777=>((Y8.f kj2 t744 t747 t748).bind fun t778=>(if (t777 != t778)=true then (none) else ((Y22.f kj2 t750).bind fun t779=>(if t753.toList=t779.toList then ((Y11.f kj2 t754).bind fun bt780=>(if t758=bt780.2 then ((Y11.f kj2 t754).bind fun bt784=>((Y6.f kj2 t755 bt784.1).bind fun t788=>(if t788=true then ((Y12.f kj2 t714).bind fun t789=>((Y1.f kj2 t714).bind fun t790=>(if (t789 != t790)=true then (none) else (if t753.toList=([]:List UInt8) then (if t758=0 then ((Y9.f kj2 t755).bind fun t791=>(if t791.toList=t754.toList then (if t738=0 then ((Y4.f kj2 t735 t732 t733).bind fun t792=>(Y0.j1 kj2 t714 t715 t720 (!t792))) else (Y0.j1 kj2 t714 t715 t720 false)) else (none))) else (if t738=0 then ((Y4.f kj2 t735 t732 t733).bind fun t793=>(Y0.j1 kj2 t714 t715 t720 (!t793))) else (Y0.j1 kj2 t714 t715 t720 false))) else ((Y20.f kj2 t753).bind fun bt794=>((Y6.f kj2 bt794.1 t750).bind fun t798=>(if t798=true then (if t758=0 then ((Y9.f kj2 t755).bind fun t799=>(if t799.toList=t754.toList then (if t738=0 then ((Y4.f kj2 t735 t732 t733).bind fun t800=>(Y0.j1 kj2 t714 t715 t720 (!t800))) else (Y0.j1 kj2 t714 t715 t720 false)) else (none))) else (if t738=0 then ((Y4.f kj2 t735 t732 t733).bind fun t801=>(Y0.j1 kj2 t714 t715 t720 (!t801))) else (Y0.j1 kj2 t714 t715 t720 false))) else (none)))))))) else (none)))) else (none))) else (none)))))) else (none)))) else (none)))) else (none))=some r:=H
      have A23:=aM A230
      clear A230
      by_cases c24:t738=t769
      ·rw [if_pos c24] at H
       have c24b0:(t738 == t769)=true:=beq_iff_eq.mpr c24
       have c24b1:(t738 != t769)=false:=bne_eq_false_iff_eq.mpr c24
       clear c24
       replace H:=bS H
       obtain ⟨⟨t770,t773⟩,A250,H⟩:=H
       replace H:((Y6.f kj2 t735 t770).bind fun t774=>(if t774=true then ((Y33.f kj2 t740 t741).bind fun t775=>((Y40.f kj2 t740 t741).bind fun t776=>(if t775=t776 then ((Y4.f kj2 t744 t747 t748).bind fun t777=>((Y8.f kj2 t744 t747 t748).bind fun t778=>(if (t777 != t778)=true then (none) else ((Y22.f kj2 t750).bind fun t779=>(if t753.toList=t779.toList then ((Y11.f kj2 t754).bind fun bt780=>(if t758=bt780.2 then ((Y11.f kj2 t754).bind fun bt784=>((Y6.f kj2 t755 bt784.1).bind fun t788=>(if t788=true then ((Y12.f kj2 t714).bind fun t789=>((Y1.f kj2 t714).bind fun t790=>(if (t789 != t790)=true then (none) else (if t753.toList=([]:List UInt8) then (if t758=0 then ((Y9.f kj2 t755).bind fun t791=>(if t791.toList=t754.toList then (if t738=0 then ((Y4.f kj2 t735 t732 t733).bind fun t792=>(Y0.j1 kj2 t714 t715 t720 (!t792))) else (Y0.j1 kj2 t714 t715 t720 false)) else (none))) else (if t738=0 then ((Y4.f kj2 t735 t732 t733).bind fun t793=>(Y0.j1 kj2 t714 t715 t720 (!t793))) else (Y0.j1 kj2 t714 t715 t720 false))) else ((Y20.f kj2 t753).bind fun bt794=>((Y6.f kj2 bt794.1 t750).bind fun t798=>(if t798=true then (if t758=0 then ((Y9.f kj2 t755).bind fun t799=>(if t799.toList=t754.toList then (if t738=0 then ((Y4.f kj2 t735 t732 t733).bind fun t800=>(Y0.j1 kj2 t714 t715 t720 (!t800))) else (Y0.j1 kj2 t714 t715 t720 false)) else (none))) else (if t738=0 then ((Y4.f kj2 t735 t732 t733).bind fun t801=>(Y0.j1 kj2 t714 t715 t720 (!t801))) else (Y0.j1 kj2 t714 t715 t720 false))) else (none)))))))) else (none)))) else (none))) else (none)))))) else (none)))) else (none)))=some r:=H
       have A25:=aM A250
       clear A250
       replace H:=bS H
       obtain ⟨t774,A260,H⟩:=H
       replace H:(if t774=true then ((Y33.f kj2 t740 t741).bind fun t775=>((Y40.f kj2 t740 t741).bind fun t776=>(if t775=t776 then ((Y4.f kj2 t744 t747 t748).bind fun t777=>((Y8.f kj2 t744 t747 t748).bind fun t778=>(if (t777 != t778)=true then (none) else ((Y22.f kj2 t750).bind fun t779=>(if t753.toList=t779.toList then ((Y11.f kj2 t754).bind fun bt780=>(if t758=bt780.2 then ((Y11.f kj2 t754).bind fun bt784=>((Y6.f kj2 t755 bt784.1).bind fun t788=>(if t788=true then ((Y12.f kj2 t714).bind fun t789=>((Y1.f kj2 t714).bind fun t790=>(if (t789 != t790)=true then (none) else (if t753.toList=([]:List UInt8) then (if t758=0 then ((Y9.f kj2 t755).bind fun t791=>(if t791.toList=t754.toList then (if t738=0 then ((Y4.f kj2 t735 t732 t733).bind fun t792=>(Y0.j1 kj2 t714 t715 t720 (!t792))) else (Y0.j1 kj2 t714 t715 t720 false)) else (none))) else (if t738=0 then ((Y4.f kj2 t735 t732 t733).bind fun t793=>(Y0.j1 kj2 t714 t715 t720 (!t793))) else (Y0.j1 kj2 t714 t715 t720 false))) else ((Y20.f kj2 t753).bind fun bt794=>((Y6.f kj2 bt794.1 t750).bind fun t798=>(if t798=true then (if t758=0 then ((Y9.f kj2 t755).bind fun t799=>(if t799.toList=t754.toList then (if t738=0 then ((Y4.f kj2 t735 t732 t733).bind fun t800=>(Y0.j1 kj2 t714 t715 t720 (!t800))) else (Y0.j1 kj2 t714 t715 t720 false)) else (none))) else (if t738=0 then ((Y4.f kj2 t735 t732 t733).bind fun t801=>(Y0.j1 kj2 t714 t715 t720 (!t801))) else (Y0.j1 kj2 t714 t715 t720 false))) else (none)))))))) else (none)))) else (none))) else (none)))))) else (none)))) else (none))=some r:=H
       have A26:=aM A260
       clear A260
       by_cases c27:t774=true
       ·subst c27
        have H1:((Y33.f kj2 t740 t741).bind fun t775=>((Y40.f kj2 t740 t741).bind fun t776=>(if t775=t776 then ((Y4.f kj2 t744 t747 t748).bind fun t777=>((Y8.f kj2 t744 t747 t748).bind fun t778=>(if (t777 != t778)=true then (none) else ((Y22.f kj2 t750).bind fun t779=>(if t753.toList=t779.toList then ((Y11.f kj2 t754).bind fun bt780=>(if t758=bt780.2 then ((Y11.f kj2 t754).bind fun bt784=>((Y6.f kj2 t755 bt784.1).bind fun t788=>(if t788=true then ((Y12.f kj2 t714).bind fun t789=>((Y1.f kj2 t714).bind fun t790=>(if (t789 != t790)=true then (none) else (if t753.toList=([]:List UInt8) then (if t758=0 then ((Y9.f kj2 t755).bind fun t791=>(if t791.toList=t754.toList then (if t738=0 then ((Y4.f kj2 t735 t732 t733).bind fun t792=>(Y0.j1 kj2 t714 t715 t720 (!t792))) else (Y0.j1 kj2 t714 t715 t720 false)) else (none))) else (if t738=0 then ((Y4.f kj2 t735 t732 t733).bind fun t793=>(Y0.j1 kj2 t714 t715 t720 (!t793))) else (Y0.j1 kj2 t714 t715 t720 false))) else ((Y20.f kj2 t753).bind fun bt794=>((Y6.f kj2 bt794.1 t750).bind fun t798=>(if t798=true then (if t758=0 then ((Y9.f kj2 t755).bind fun t799=>(if t799.toList=t754.toList then (if t738=0 then ((Y4.f kj2 t735 t732 t733).bind fun t800=>(Y0.j1 kj2 t714 t715 t720 (!t800))) else (Y0.j1 kj2 t714 t715 t720 false)) else (none))) else (if t738=0 then ((Y4.f kj2 t735 t732 t733).bind fun t801=>(Y0.j1 kj2 t714 t715 t720 (!t801))) else (Y0.j1 kj2 t714 t715 t720 false))) else (none)))))))) else (none)))) else (none))) else (none)))))) else (none))))=some r:=by rw [if_pos rfl] at H;exact H
        clear H
        have H:=H1
        clear H1
        replace H:=bS H
        obtain ⟨t775,A280,H⟩:=H
        replace H:((Y40.f kj2 t740 t741).bind fun t776=>(if t775=t776 then ((Y4.f kj2 t744 t747 t748).bind fun t777=>((Y8.f kj2 t744 t747 t748).bind fun t778=>(if (t777 != t778)=true then (none) else ((Y22.f kj2 t750).bind fun t779=>(if t753.toList=t779.toList then ((Y11.f kj2 t754).bind fun bt780=>(if t758=bt780.2 then ((Y11.f kj2 t754).bind fun bt784=>((Y6.f kj2 t755 bt784.1).bind fun t788=>(if t788=true then ((Y12.f kj2 t714).bind fun t789=>((Y1.f kj2 t714).bind fun t790=>(if (t789 != t790)=true then (none) else (if t753.toList=([]:List UInt8) then (if t758=0 then ((Y9.f kj2 t755).bind fun t791=>(if t791.toList=t754.toList then (if t738=0 then ((Y4.f kj2 t735 t732 t733).bind fun t792=>(Y0.j1 kj2 t714 t715 t720 (!t792))) else (Y0.j1 kj2 t714 t715 t720 false)) else (none))) else (if t738=0 then ((Y4.f kj2 t735 t732 t733).bind fun t793=>(Y0.j1 kj2 t714 t715 t720 (!t793))) else (Y0.j1 kj2 t714 t715 t720 false))) else ((Y20.f kj2 t753).bind fun bt794=>((Y6.f kj2 bt794.1 t750).bind fun t798=>(if t798=true then (if t758=0 then ((Y9.f kj2 t755).bind fun t799=>(if t799.toList=t754.toList then (if t738=0 then ((Y4.f kj2 t735 t732 t733).bind fun t800=>(Y0.j1 kj2 t714 t715 t720 (!t800))) else (Y0.j1 kj2 t714 t715 t720 false)) else (none))) else (if t738=0 then ((Y4.f kj2 t735 t732 t733).bind fun t801=>(Y0.j1 kj2 t714 t715 t720 (!t801))) else (Y0.j1 kj2 t714 t715 t720 false))) else (none)))))))) else (none)))) else (none))) else (none)))))) else (none)))=some r:=H
        have A28:=aM A280
        clear A280
        replace H:=bS H
        obtain ⟨t776,A290,H⟩:=H
        replace H:(if t775=t776 then ((Y4.f kj2 t744 t747 t748).bind fun t777=>((Y8.f kj2 t744 t747 t748).bind fun t778=>(if (t777 != t778)=true then (none) else ((Y22.f kj2 t750).bind fun t779=>(if t753.toList=t779.toList then ((Y11.f kj2 t754).bind fun bt780=>(if t758=bt780.2 then ((Y11.f kj2 t754).bind fun bt784=>((Y6.f kj2 t755 bt784.1).bind fun t788=>(if t788=true then ((Y12.f kj2 t714).bind fun t789=>((Y1.f kj2 t714).bind fun t790=>(if (t789 != t790)=true then (none) else (if t753.toList=([]:List UInt8) then (if t758=0 then ((Y9.f kj2 t755).bind fun t791=>(if t791.toList=t754.toList then (if t738=0 then ((Y4.f kj2 t735 t732 t733).bind fun t792=>(Y0.j1 kj2 t714 t715 t720 (!t792))) else (Y0.j1 kj2 t714 t715 t720 false)) else (none))) else (if t738=0 then ((Y4.f kj2 t735 t732 t733).bind fun t793=>(Y0.j1 kj2 t714 t715 t720 (!t793))) else (Y0.j1 kj2 t714 t715 t720 false))) else ((Y20.f kj2 t753).bind fun bt794=>((Y6.f kj2 bt794.1 t750).bind fun t798=>(if t798=true then (if t758=0 then ((Y9.f kj2 t755).bind fun t799=>(if t799.toList=t754.toList then (if t738=0 then ((Y4.f kj2 t735 t732 t733).bind fun t800=>(Y0.j1 kj2 t714 t715 t720 (!t800))) else (Y0.j1 kj2 t714 t715 t720 false)) else (none))) else (if t738=0 then ((Y4.f kj2 t735 t732 t733).bind fun t801=>(Y0.j1 kj2 t714 t715 t720 (!t801))) else (Y0.j1 kj2 t714 t715 t720 false))) else (none)))))))) else (none)))) else (none))) else (none)))))) else (none))=some r:=H
        have A29:=aM A290
        clear A290
        by_cases c30:t775=t776
        ·rw [if_pos c30] at H
         have c30b0:(t775 == t776)=true:=beq_iff_eq.mpr c30
         have c30b1:(t775 != t776)=false:=bne_eq_false_iff_eq.mpr c30
         clear c30
         replace H:=bS H
         obtain ⟨t777,A310,H⟩:=H
         replace H:((Y8.f kj2 t744 t747 t748).bind fun t778=>(if (t777 != t778)=true then (none) else ((Y22.f kj2 t750).bind fun t779=>(if t753.toList=t779.toList then ((Y11.f kj2 t754).bind fun bt780=>(if t758=bt780.2 then ((Y11.f kj2 t754).bind fun bt784=>((Y6.f kj2 t755 bt784.1).bind fun t788=>(if t788=true then ((Y12.f kj2 t714).bind fun t789=>((Y1.f kj2 t714).bind fun t790=>(if (t789 != t790)=true then (none) else (if t753.toList=([]:List UInt8) then (if t758=0 then ((Y9.f kj2 t755).bind fun t791=>(if t791.toList=t754.toList then (if t738=0 then ((Y4.f kj2 t735 t732 t733).bind fun t792=>(Y0.j1 kj2 t714 t715 t720 (!t792))) else (Y0.j1 kj2 t714 t715 t720 false)) else (none))) else (if t738=0 then ((Y4.f kj2 t735 t732 t733).bind fun t793=>(Y0.j1 kj2 t714 t715 t720 (!t793))) else (Y0.j1 kj2 t714 t715 t720 false))) else ((Y20.f kj2 t753).bind fun bt794=>((Y6.f kj2 bt794.1 t750).bind fun t798=>(if t798=true then (if t758=0 then ((Y9.f kj2 t755).bind fun t799=>(if t799.toList=t754.toList then (if t738=0 then ((Y4.f kj2 t735 t732 t733).bind fun t800=>(Y0.j1 kj2 t714 t715 t720 (!t800))) else (Y0.j1 kj2 t714 t715 t720 false)) else (none))) else (if t738=0 then ((Y4.f kj2 t735 t732 t733).bind fun t801=>(Y0.j1 kj2 t714 t715 t720 (!t801))) else (Y0.j1 kj2 t714 t715 t720 false))) else (none)))))))) else (none)))) else (none))) else (none)))))=some r:=H
         have A31:=aM A310
         clear A310
         replace H:=bS H
         obtain ⟨t778,A320,H⟩:=H
         replace H:(if (t777 != t778)=true then (none) else ((Y22.f kj2 t750).bind fun t779=>(if t753.toList=t779.toList then ((Y11.f kj2 t754).bind fun bt780=>(if t758=bt780.2 then ((Y11.f kj2 t754).bind fun bt784=>((Y6.f kj2 t755 bt784.1).bind fun t788=>(if t788=true then ((Y12.f kj2 t714).bind fun t789=>((Y1.f kj2 t714).bind fun t790=>(if (t789 != t790)=true then (none) else (if t753.toList=([]:List UInt8) then (if t758=0 then ((Y9.f kj2 t755).bind fun t791=>(if t791.toList=t754.toList then (if t738=0 then ((Y4.f kj2 t735 t732 t733).bind fun t792=>(Y0.j1 kj2 t714 t715 t720 (!t792))) else (Y0.j1 kj2 t714 t715 t720 false)) else (none))) else (if t738=0 then ((Y4.f kj2 t735 t732 t733).bind fun t793=>(Y0.j1 kj2 t714 t715 t720 (!t793))) else (Y0.j1 kj2 t714 t715 t720 false))) else ((Y20.f kj2 t753).bind fun bt794=>((Y6.f kj2 bt794.1 t750).bind fun t798=>(if t798=true then (if t758=0 then ((Y9.f kj2 t755).bind fun t799=>(if t799.toList=t754.toList then (if t738=0 then ((Y4.f kj2 t735 t732 t733).bind fun t800=>(Y0.j1 kj2 t714 t715 t720 (!t800))) else (Y0.j1 kj2 t714 t715 t720 false)) else (none))) else (if t738=0 then ((Y4.f kj2 t735 t732 t733).bind fun t801=>(Y0.j1 kj2 t714 t715 t720 (!t801))) else (Y0.j1 kj2 t714 t715 t720 false))) else (none)))))))) else (none)))) else (none))) else (none))))=some r:=H
         have A32:=aM A320
         clear A320
         by_cases c33:(t777 != t778)=true
         ·rw [if_pos c33] at H
          exact nO H
         ·rw [if_neg c33] at H
          have c33b0:(t777 != t778)=false:=by simpa using c33
          (try (have c33b1:decide (t777=t778)=true:=by simpa using c33))
          (try (have c33b2:(t777 == t778)=true:=by simpa using c33))
          clear c33
          replace H:=bS H
          obtain ⟨t779,A340,H⟩:=H
          replace H:(if t753.toList=t779.toList then ((Y11.f kj2 t754).bind fun bt780=>(if t758=bt780.2 then ((Y11.f kj2 t754).bind fun bt784=>((Y6.f kj2 t755 bt784.1).bind fun t788=>(if t788=true then ((Y12.f kj2 t714).bind fun t789=>((Y1.f kj2 t714).bind fun t790=>(if (t789 != t790)=true then (none) else (if t753.toList=([]:List UInt8) then (if t758=0 then ((Y9.f kj2 t755).bind fun t791=>(if t791.toList=t754.toList then (if t738=0 then ((Y4.f kj2 t735 t732 t733).bind fun t792=>(Y0.j1 kj2 t714 t715 t720 (!t792))) else (Y0.j1 kj2 t714 t715 t720 false)) else (none))) else (if t738=0 then ((Y4.f kj2 t735 t732 t733).bind fun t793=>(Y0.j1 kj2 t714 t715 t720 (!t793))) else (Y0.j1 kj2 t714 t715 t720 false))) else ((Y20.f kj2 t753).bind fun bt794=>((Y6.f kj2 bt794.1 t750).bind fun t798=>(if t798=true then (if t758=0 then ((Y9.f kj2 t755).bind fun t799=>(if t799.toList=t754.toList then (if t738=0 then ((Y4.f kj2 t735 t732 t733).bind fun t800=>(Y0.j1 kj2 t714 t715 t720 (!t800))) else (Y0.j1 kj2 t714 t715 t720 false)) else (none))) else (if t738=0 then ((Y4.f kj2 t735 t732 t733).bind fun t801=>(Y0.j1 kj2 t714 t715 t720 (!t801))) else (Y0.j1 kj2 t714 t715 t720 false))) else (none)))))))) else (none)))) else (none))) else (none))=some r:=H
          have A34:=aM A340
          clear A340
          by_cases c35:t753.toList=t779.toList
          ·rw [if_pos c35] at H
           have c35b0:(t753.toList == t779.toList)=true:=beq_iff_eq.mpr c35
           have c35b1:(t753.toList != t779.toList)=false:=bne_eq_false_iff_eq.mpr c35
           clear c35
           replace H:=bS H
           obtain ⟨⟨t780,t783⟩,A360,H⟩:=H
           replace H:(if t758=t783 then ((Y11.f kj2 t754).bind fun bt784=>((Y6.f kj2 t755 bt784.1).bind fun t788=>(if t788=true then ((Y12.f kj2 t714).bind fun t789=>((Y1.f kj2 t714).bind fun t790=>(if (t789 != t790)=true then (none) else (if t753.toList=([]:List UInt8) then (if t758=0 then ((Y9.f kj2 t755).bind fun t791=>(if t791.toList=t754.toList then (if t738=0 then ((Y4.f kj2 t735 t732 t733).bind fun t792=>(Y0.j1 kj2 t714 t715 t720 (!t792))) else (Y0.j1 kj2 t714 t715 t720 false)) else (none))) else (if t738=0 then ((Y4.f kj2 t735 t732 t733).bind fun t793=>(Y0.j1 kj2 t714 t715 t720 (!t793))) else (Y0.j1 kj2 t714 t715 t720 false))) else ((Y20.f kj2 t753).bind fun bt794=>((Y6.f kj2 bt794.1 t750).bind fun t798=>(if t798=true then (if t758=0 then ((Y9.f kj2 t755).bind fun t799=>(if t799.toList=t754.toList then (if t738=0 then ((Y4.f kj2 t735 t732 t733).bind fun t800=>(Y0.j1 kj2 t714 t715 t720 (!t800))) else (Y0.j1 kj2 t714 t715 t720 false)) else (none))) else (if t738=0 then ((Y4.f kj2 t735 t732 t733).bind fun t801=>(Y0.j1 kj2 t714 t715 t720 (!t801))) else (Y0.j1 kj2 t714 t715 t720 false))) else (none)))))))) else (none)))) else (none))=some r:=H
           have A36:=aM A360
           clear A360
           by_cases c37:t758=t783
           ·rw [if_pos c37] at H
            have c37b0:(t758 == t783)=true:=beq_iff_eq.mpr c37
            have c37b1:(t758 != t783)=false:=bne_eq_false_iff_eq.mpr c37
            clear c37
            replace H:=bS H
            obtain ⟨⟨t784,t787⟩,A380,H⟩:=H
            replace H:((Y6.f kj2 t755 t784).bind fun t788=>(if t788=true then ((Y12.f kj2 t714).bind fun t789=>((Y1.f kj2 t714).bind fun t790=>(if (t789 != t790)=true then (none) else (if t753.toList=([]:List UInt8) then (if t758=0 then ((Y9.f kj2 t755).bind fun t791=>(if t791.toList=t754.toList then (if t738=0 then ((Y4.f kj2 t735 t732 t733).bind fun t792=>(Y0.j1 kj2 t714 t715 t720 (!t792))) else (Y0.j1 kj2 t714 t715 t720 false)) else (none))) else (if t738=0 then ((Y4.f kj2 t735 t732 t733).bind fun t793=>(Y0.j1 kj2 t714 t715 t720 (!t793))) else (Y0.j1 kj2 t714 t715 t720 false))) else ((Y20.f kj2 t753).bind fun bt794=>((Y6.f kj2 bt794.1 t750).bind fun t798=>(if t798=true then (if t758=0 then ((Y9.f kj2 t755).bind fun t799=>(if t799.toList=t754.toList then (if t738=0 then ((Y4.f kj2 t735 t732 t733).bind fun t800=>(Y0.j1 kj2 t714 t715 t720 (!t800))) else (Y0.j1 kj2 t714 t715 t720 false)) else (none))) else (if t738=0 then ((Y4.f kj2 t735 t732 t733).bind fun t801=>(Y0.j1 kj2 t714 t715 t720 (!t801))) else (Y0.j1 kj2 t714 t715 t720 false))) else (none)))))))) else (none)))=some r:=H
            have A38:=aM A380
            clear A380
            replace H:=bS H
            obtain ⟨t788,A390,H⟩:=H
            replace H:(if t788=true then ((Y12.f kj2 t714).bind fun t789=>((Y1.f kj2 t714).bind fun t790=>(if (t789 != t790)=true then (none) else (if t753.toList=([]:List UInt8) then (if t758=0 then ((Y9.f kj2 t755).bind fun t791=>(if t791.toList=t754.toList then (if t738=0 then ((Y4.f kj2 t735 t732 t733).bind fun t792=>(Y0.j1 kj2 t714 t715 t720 (!t792))) else (Y0.j1 kj2 t714 t715 t720 false)) else (none))) else (if t738=0 then ((Y4.f kj2 t735 t732 t733).bind fun t793=>(Y0.j1 kj2 t714 t715 t720 (!t793))) else (Y0.j1 kj2 t714 t715 t720 false))) else ((Y20.f kj2 t753).bind fun bt794=>((Y6.f kj2 bt794.1 t750).bind fun t798=>(if t798=true then (if t758=0 then ((Y9.f kj2 t755).bind fun t799=>(if t799.toList=t754.toList then (if t738=0 then ((Y4.f kj2 t735 t732 t733).bind fun t800=>(Y0.j1 kj2 t714 t715 t720 (!t800))) else (Y0.j1 kj2 t714 t715 t720 false)) else (none))) else (if t738=0 then ((Y4.f kj2 t735 t732 t733).bind fun t801=>(Y0.j1 kj2 t714 t715 t720 (!t801))) else (Y0.j1 kj2 t714 t715 t720 false))) else (none)))))))) else (none))=some r:=H
            have A39:=aM A390
            clear A390
            by_cases c40:t788=true
            ·subst c40
             have H1:((Y12.f kj2 t714).bind fun t789=>((Y1.f kj2 t714).bind fun t790=>(if (t789 != t790)=true then (none) else (if t753.toList=([]:List UInt8) then (if t758=0 then ((Y9.f kj2 t755).bind fun t791=>(if t791.toList=t754.toList then (if t738=0 then ((Y4.f kj2 t735 t732 t733).bind fun t792=>(Y0.j1 kj2 t714 t715 t720 (!t792))) else (Y0.j1 kj2 t714 t715 t720 false)) else (none))) else (if t738=0 then ((Y4.f kj2 t735 t732 t733).bind fun t793=>(Y0.j1 kj2 t714 t715 t720 (!t793))) else (Y0.j1 kj2 t714 t715 t720 false))) else ((Y20.f kj2 t753).bind fun bt794=>((Y6.f kj2 bt794.1 t750).bind fun t798=>(if t798=true then (if t758=0 then ((Y9.f kj2 t755).bind fun t799=>(if t799.toList=t754.toList then (if t738=0 then ((Y4.f kj2 t735 t732 t733).bind fun t800=>(Y0.j1 kj2 t714 t715 t720 (!t800))) else (Y0.j1 kj2 t714 t715 t720 false)) else (none))) else (if t738=0 then ((Y4.f kj2 t735 t732 t733).bind fun t801=>(Y0.j1 kj2 t714 t715 t720 (!t801))) else (Y0.j1 kj2 t714 t715 t720 false))) else (none))))))))=some r:=by rw [if_pos rfl] at H;exact H
             clear H
             have H:=H1
             clear H1
             replace H:=bS H
             obtain ⟨t789,A410,H⟩:=H
             replace H:((Y1.f kj2 t714).bind fun t790=>(if (t789 != t790)=true then (none) else (if t753.toList=([]:List UInt8) then (if t758=0 then ((Y9.f kj2 t755).bind fun t791=>(if t791.toList=t754.toList then (if t738=0 then ((Y4.f kj2 t735 t732 t733).bind fun t792=>(Y0.j1 kj2 t714 t715 t720 (!t792))) else (Y0.j1 kj2 t714 t715 t720 false)) else (none))) else (if t738=0 then ((Y4.f kj2 t735 t732 t733).bind fun t793=>(Y0.j1 kj2 t714 t715 t720 (!t793))) else (Y0.j1 kj2 t714 t715 t720 false))) else ((Y20.f kj2 t753).bind fun bt794=>((Y6.f kj2 bt794.1 t750).bind fun t798=>(if t798=true then (if t758=0 then ((Y9.f kj2 t755).bind fun t799=>(if t799.toList=t754.toList then (if t738=0 then ((Y4.f kj2 t735 t732 t733).bind fun t800=>(Y0.j1 kj2 t714 t715 t720 (!t800))) else (Y0.j1 kj2 t714 t715 t720 false)) else (none))) else (if t738=0 then ((Y4.f kj2 t735 t732 t733).bind fun t801=>(Y0.j1 kj2 t714 t715 t720 (!t801))) else (Y0.j1 kj2 t714 t715 t720 false))) else (none)))))))=some r:=H
             have A41:=aM A410
             clear A410
             replace H:=bS H
             obtain ⟨t790,A420,H⟩:=H
             replace H:(if (t789 != t790)=true then (none) else (if t753.toList=([]:List UInt8) then (if t758=0 then ((Y9.f kj2 t755).bind fun t791=>(if t791.toList=t754.toList then (if t738=0 then ((Y4.f kj2 t735 t732 t733).bind fun t792=>(Y0.j1 kj2 t714 t715 t720 (!t792))) else (Y0.j1 kj2 t714 t715 t720 false)) else (none))) else (if t738=0 then ((Y4.f kj2 t735 t732 t733).bind fun t793=>(Y0.j1 kj2 t714 t715 t720 (!t793))) else (Y0.j1 kj2 t714 t715 t720 false))) else ((Y20.f kj2 t753).bind fun bt794=>((Y6.f kj2 bt794.1 t750).bind fun t798=>(if t798=true then (if t758=0 then ((Y9.f kj2 t755).bind fun t799=>(if t799.toList=t754.toList then (if t738=0 then ((Y4.f kj2 t735 t732 t733).bind fun t800=>(Y0.j1 kj2 t714 t715 t720 (!t800))) else (Y0.j1 kj2 t714 t715 t720 false)) else (none))) else (if t738=0 then ((Y4.f kj2 t735 t732 t733).bind fun t801=>(Y0.j1 kj2 t714 t715 t720 (!t801))) else (Y0.j1 kj2 t714 t715 t720 false))) else (none))))))=some r:=H
             have A42:=aM A420
             clear A420
             by_cases c43:(t789 != t790)=true
             ·rw [if_pos c43] at H
              exact nO H
             ·rw [if_neg c43] at H
              have c43b0:(t789 != t790)=false:=by simpa using c43
              (try (have c43b1:decide (t789=t790)=true:=by simpa using c43))
              (try (have c43b2:(t789 == t790)=true:=by simpa using c43))
              clear c43
              have HC44:=aM H
              clear H
              try go_wp2_with (first | ((with_reducible refine gc_ 19 ?_);refine gl_ (some 32) Try.func19 #[.slice A0 l0.length c0] ?_;(with_reducible refine (Y48.calls kj2 _ _ l0 t714 t715 _ ?s1 ?s2 A6.out).mono ?_);(case s1=>repeat (first | exact (Kd.C_below HR0.out HB.out) | (with_reducible refine Kd.C_alloc ?_ _) | (with_reducible refine Kd.C_drewN ?_ _) | (with_reducible refine Kd.C_drew ?_)));(case s2=>exact HC0.out);rintro e w45 ⟨v716,v718,rfl,ho0,ho1,hb⟩;refine ⟨_,rfl,?_⟩;have n0_:=aM (Kd.R_lower ho0 (below_size (z1_ HB.out)));have n1_:=aM (Kd.R_lower ho1 (below_size (z1_ HB.out)));have n2_:=aM (below_step (z1_ HB.out) hb);clear HB;have HO717:=n0_;have HO719:=n1_;have HB:=n2_;clear n0_ n1_ n2_;(try clear hb);(try clear ho0);(try clear ho1);obtain ⟨Ao46,co46,eo46⟩:=Kd.R_slice HO717.out;subst eo46;obtain ⟨Ao47,co47,eo47⟩:=Kd.R_slice HO719.out;subst eo47) | ((with_reducible refine gc_ 20 ?_);refine gl_ (some 37) Try.func20 #[.slice Ao46 t714.length co46,.slice Ao47 t715.length co47] ?_;(with_reducible refine (Y51.calls kj2 _ _ t714 _ _ t715 t720 _ ?s1 ?s2 ?s3 ?s4 A7.out).mono ?_);(case s1=>repeat (first | exact (Kd.R_reads' HO717.out).2.2 | (with_reducible refine Kd.C_alloc ?_ _) | (with_reducible refine Kd.C_drewN ?_ _) | (with_reducible refine Kd.C_drew ?_)));(case s2=>exact (Kd.R_reads' HO717.out).2.1);(case s3=>repeat (first | exact (Kd.R_reads' HO719.out).2.2 | (with_reducible refine Kd.C_alloc ?_ _) | (with_reducible refine Kd.C_drewN ?_ _) | (with_reducible refine Kd.C_drew ?_)));(case s4=>exact (Kd.R_reads' HO719.out).2.1);rintro e w48 ⟨v721,rfl,ho0,hb⟩;refine ⟨_,rfl,?_⟩;have n0_:=aM (Kd.R_elder' (z0_ HO717.out) (Kd.R_base ho0) hb);have n1_:=aM (Kd.R_elder' (z0_ HO719.out) (Kd.R_base ho0) hb);have n2_:=aM (Kd.R_lower (Kd.R_new' (Kd.R_new' ho0 (Kd.R_lt (z0_ HO717.out))) (Kd.R_lt (z0_ HO719.out))) (below_size (z1_ HB.out)));have n3_:=aM (below_step (z1_ HB.out) hb);clear HO717;clear HO719;clear HB;have HO717:=n0_;have HO719:=n1_;have HO722:=n2_;have HB:=n3_;clear n0_ n1_ n2_ n3_;(try clear hb);(try clear ho0)) | ((with_reducible refine gc_ 21 ?_);refine gl_ (some 40) Try.func21 #[.slice A1 l1.length c1] ?_;(with_reducible refine (Y54.calls kj2 _ _ l1 t723 t724 _ ?s1 ?s2 A8.out).mono ?_);(case s1=>repeat (first | exact (Kd.C_below HR1.out HB.out) | (with_reducible refine Kd.C_alloc ?_ _) | (with_reducible refine Kd.C_drewN ?_ _) | (with_reducible refine Kd.C_drew ?_)));(case s2=>exact HC1.out);rintro e w49 ⟨v725,v727,rfl,ho0,ho1,hb⟩;refine ⟨_,rfl,?_⟩;have n0_:=aM (Kd.R_mono (Kd.R_told (Kd.R_told (Kd.R_old (z0_ HO717.out) hb) (Kd.R_base ho0)) (Kd.R_base ho1)) (fun _ h_=>h_.1));have n1_:=aM (Kd.R_mono (Kd.R_told (Kd.R_told (Kd.R_old (z0_ HO719.out) hb) (Kd.R_base ho0)) (Kd.R_base ho1)) (fun _ h_=>h_.1));have n2_:=aM (Kd.R_mono (Kd.R_told (Kd.R_told (Kd.R_old (z0_ HO722.out) hb) (Kd.R_base ho0)) (Kd.R_base ho1)) (fun _ h_=>h_.1));have n3_:=aM (Kd.R_lower (Kd.R_new' (Kd.R_new' (Kd.R_new' ho0 (Kd.R_lt (z0_ HO717.out))) (Kd.R_lt (z0_ HO719.out))) (Kd.R_lt (z0_ HO722.out))) (below_size (z1_ HB.out)));have n4_:=aM (Kd.R_lower (Kd.R_new' (Kd.R_new' (Kd.R_new' ho1 (Kd.R_lt (z0_ HO717.out))) (Kd.R_lt (z0_ HO719.out))) (Kd.R_lt (z0_ HO722.out))) (below_size (z1_ HB.out)));have n5_:=aM (below_step (z1_ HB.out) hb);clear HO717;clear HO719;clear HO722;clear HB;have HO717:=n0_;have HO719:=n1_;have HO722:=n2_;have HO726:=n3_;have HO728:=n4_;have HB:=n5_;clear n0_ n1_ n2_ n3_ n4_ n5_;(try clear hb);(try clear ho0);(try clear ho1)) | ((with_reducible refine gc_ 22 ?_);refine gl_ (some 45) Try.func22 #[.slice A1 l1.length c1] ?_;(with_reducible refine (Y55.calls kj2 _ _ l1 t729 t732 t733 _ ?s1 ?s2 A9.out).mono ?_);(case s1=>repeat (first | exact (Kd.C_below HR1.out HB.out) | (with_reducible refine Kd.C_alloc ?_ _) | (with_reducible refine Kd.C_drewN ?_ _) | (with_reducible refine Kd.C_drew ?_)));(case s2=>exact HC1.out);rintro e w50 ⟨v730,rfl,ho0,hb⟩;refine ⟨_,rfl,?_⟩;have n0_:=aM (Kd.R_elder' (z0_ HO717.out) (Kd.R_base ho0) hb);have n1_:=aM (Kd.R_elder' (z0_ HO719.out) (Kd.R_base ho0) hb);have n2_:=aM (Kd.R_elder' (z0_ HO722.out) (Kd.R_base ho0) hb);have n3_:=aM (Kd.R_elder' (z0_ HO726.out) (Kd.R_base ho0) hb);have n4_:=aM (Kd.R_elder' (z0_ HO728.out) (Kd.R_base ho0) hb);have n5_:=aM (Kd.R_lower (Kd.R_new' (Kd.R_new' (Kd.R_new' (Kd.R_new' (Kd.R_new' ho0 (Kd.R_lt (z0_ HO717.out))) (Kd.R_lt (z0_ HO719.out))) (Kd.R_lt (z0_ HO722.out))) (Kd.R_lt (z0_ HO726.out))) (Kd.R_lt (z0_ HO728.out))) (below_size (z1_ HB.out)));have n6_:=aM (below_step (z1_ HB.out) hb);clear HO717;clear HO719;clear HO722;clear HO726;clear HO728;clear HB;have HO717:=n0_;have HO719:=n1_;have HO722:=n2_;have HO726:=n3_;have HO728:=n4_;have HO731:=n5_;have HB:=n6_;clear n0_ n1_ n2_ n3_ n4_ n5_ n6_;(try clear hb);(try clear ho0)) | ((with_reducible refine gd_ 11 ?_);(try (refine gate_guard (by rfl) ?_;dsimp only));refine be_ 11 #[.int .i64 0,.int .i64 0] 49 ?_;intro gb734 hg w51 hbox hb;have n0_:=aM (Kd.R_below (Kd.R_elderB (z0_ HO717.out) gb734 (Nat.le_of_eq hg.symm)) hb);have n1_:=aM (Kd.R_below (Kd.R_elderB (z0_ HO719.out) gb734 (Nat.le_of_eq hg.symm)) hb);have n2_:=aM (Kd.R_below (Kd.R_elderB (z0_ HO722.out) gb734 (Nat.le_of_eq hg.symm)) hb);have n3_:=aM (Kd.R_below (Kd.R_elderB (z0_ HO726.out) gb734 (Nat.le_of_eq hg.symm)) hb);have n4_:=aM (Kd.R_below (Kd.R_elderB (z0_ HO728.out) gb734 (Nat.le_of_eq hg.symm)) hb);have n5_:=aM (Kd.R_below (Kd.R_elderB (z0_ HO731.out) gb734 (Nat.le_of_eq hg.symm)) hb);have n6_:=aM (below_step (z1_ HB.out) hb);have n7_:=aM (hbox);have n8_:=aM ((z8_ HB.out:w.heap.size≤gb734));have n9_:=aM ((z8_ HB.out:w.heap.size≤gb734));clear HO717;clear HO719;clear HO722;clear HO726;clear HO728;clear HO731;clear HB;have HO717:=n0_;have HO719:=n1_;have HO722:=n2_;have HO726:=n3_;have HO728:=n4_;have HO731:=n5_;have HB:=n6_;have BK734:=n7_;have GW734:=n8_;have GE734:=n9_;clear n0_ n1_ n2_ n3_ n4_ n5_ n6_ n7_ n8_ n9_;clear hb hbox hg;have ⟨hcz52_0,hcz52_1,hfz52_0,hfz52_1⟩:=cz2_ BK734.out;obtain ⟨Ao53,co53,eo53⟩:=Kd.R_slice HO731.out;subst eo53) | ((with_reducible refine gc_ 23 ?_);refine gl_ (some 50) Try.func23 #[.slice Ao53 t729.length co53,.agg #[.int .i64 t732,.int .i64 t733]] ?_;(with_reducible refine (Y34.calls kj2 _ _ t729 t732 t733 t735 t738 _ ?s1 ?s2 A10.out).mono ?_);(case s1=>refine (Kd.R_reads' (e:=49) (base:=w.heap.size) (ok:=fun k_=>((((((True∧some k_≠(.slice Ao46 t714.length co46:Value).ownBlock)∧some k_≠(.slice Ao47 t715.length co47:Value).ownBlock)∧some k_≠(v721:Value).ownBlock)∧some k_≠(v725:Value).ownBlock)∧some k_≠(v727:Value).ownBlock)∧k_≠gb734)) (n:=t729.length) (c:=co53) ?_).2.2;exact (z26_ HO731.out));(case s2=>exact (Kd.R_reads' HO731.out).2.1);rintro e w54 ⟨v736,rfl,ho0,hb⟩;refine ⟨_,rfl,?_⟩;have n0_:=aM (Kd.R_elder' (z26_ HO717.out) (Kd.R_base ho0) hb);have n1_:=aM (Kd.R_elder' (z26_ HO719.out) (Kd.R_base ho0) hb);have n2_:=aM (Kd.R_elder' (z26_ HO722.out) (Kd.R_base ho0) hb);have n3_:=aM (Kd.R_elder' (z26_ HO726.out) (Kd.R_base ho0) hb);have n4_:=aM (Kd.R_elder' (z26_ HO728.out) (Kd.R_base ho0) hb);have n5_:=aM (Kd.R_elder' (z26_ HO731.out) (Kd.R_base ho0) hb);have n6_:=aM (Kd.R_lower (Kd.R_newB (Kd.R_new' (Kd.R_new' (Kd.R_new' (Kd.R_new' (Kd.R_new' (Kd.R_new' ho0 (Kd.R_lt (z26_ HO717.out))) (Kd.R_lt (z26_ HO719.out))) (Kd.R_lt (z26_ HO722.out))) (Kd.R_lt (z26_ HO726.out))) (Kd.R_lt (z26_ HO728.out))) (Kd.R_lt (z26_ HO731.out))) (g:=gb734) (o:=.cells #[.int .i64 t732,.int .i64 t733] 49 (0,0)) (z15_ BK734.out)) (below_size (z4_ HB.out GE734.out)));have n7_:=aM (blk_below (g:=gb734) (o:=.cells #[.int .i64 t732,.int .i64 t733] 49 (0,0)) (z15_ BK734.out) hb);have n8_:=aM (below_step (z4_ HB.out GE734.out) hb);clear HO717;clear HO719;clear HO722;clear HO726;clear HO728;clear HO731;clear BK734;clear HB;have HO717:=n0_;have HO719:=n1_;have HO722:=n2_;have HO726:=n3_;have HO728:=n4_;have HO731:=n5_;have HO737:=n6_;have BK734:=n7_;have HB:=n8_;clear n0_ n1_ n2_ n3_ n4_ n5_ n6_ n7_ n8_;(try clear hb);(try clear hb2);(try clear hk);(try clear hi);(try clear ho0)) | ((with_reducible refine gd_ 12 ?_);(try (refine gate_guard (by rfl) ?_;dsimp only));refine be_ 12 #[.slice none 0 0,.int .i64 0] 53 ?_;intro gb739 hg w55 hbox hb;have n0_:=aM (Kd.R_below (z0_ HO717.out) hb);have n1_:=aM (Kd.R_below (z0_ HO719.out) hb);have n2_:=aM (Kd.R_below (z0_ HO722.out) hb);have n3_:=aM (Kd.R_below (z0_ HO726.out) hb);have n4_:=aM (Kd.R_below (z0_ HO728.out) hb);have n5_:=aM (Kd.R_below (z0_ HO731.out) hb);have n6_:=aM (Kd.R_below (z0_ HO737.out) hb);have n7_:=aM (blkB_ BK734.out hb);have n8_:=aM (below_step (z4_ HB.out GE734.out) hb);have n9_:=aM (hbox);have n10_:=aM ((z17_ HB.out GE734.out:w.heap.size≤gb739));have n11_:=aM ((z17_ HB.out GE734.out:w.heap.size≤gb739));have n12_:=aM (neL_ BK734.out hg);have n13_:=aM (neG_ BK734.out hg);clear HO717;clear HO719;clear HO722;clear HO726;clear HO728;clear HO731;clear HO737;clear BK734;clear HB;have HO717:=n0_;have HO719:=n1_;have HO722:=n2_;have HO726:=n3_;have HO728:=n4_;have HO731:=n5_;have HO737:=n6_;have BK734:=n7_;have HB:=n8_;have BK739:=n9_;have GW739:=n10_;have GE739:=n11_;have NB734_739:=n12_;have NB739_734:=n13_;clear n0_ n1_ n2_ n3_ n4_ n5_ n6_ n7_ n8_ n9_ n10_ n11_ n12_ n13_;clear hb hbox hg;obtain ⟨Ao56,co56,eo56⟩:=Kd.R_slice HO737.out;subst eo56;have hnb57:=NB739_734.out;have hnc57:=NB734_739.out;have ⟨hcz58_0,hcz58_1,hfz58_0,hfz58_1⟩:=cz2_ BK739.out) | ((with_reducible refine gc_ 24 ?_);refine gl_ (some 53) Try.func24 #[.slice A0 l0.length c0] ?_;(with_reducible refine (Y53.calls kj2 _ _ l0 t740 t741 _ ?s1 ?s2 A11.out).mono ?_);(case s1=>exact Kd.C_below HR0.out (z13_ HB.out GE734.out GE739.out));(case s2=>exact HC0.out);rintro e w59 ⟨v742,rfl,ho0,hb⟩;refine ⟨_,rfl,?_⟩;have n0_:=aM (Kd.R_elder' (z24_ HO717.out BK739.out) (Kd.R_base ho0) hb);have n1_:=aM (Kd.R_elder' (z24_ HO719.out BK739.out) (Kd.R_base ho0) hb);have n2_:=aM (Kd.R_elder' (z24_ HO722.out BK739.out) (Kd.R_base ho0) hb);have n3_:=aM (Kd.R_elder' (z24_ HO726.out BK739.out) (Kd.R_base ho0) hb);have n4_:=aM (Kd.R_elder' (z24_ HO728.out BK739.out) (Kd.R_base ho0) hb);have n5_:=aM (Kd.R_elder' (z24_ HO731.out BK739.out) (Kd.R_base ho0) hb);have n6_:=aM (Kd.R_elder' (z24_ HO737.out BK739.out) (Kd.R_base ho0) hb);have n7_:=aM (Kd.R_lower (Kd.R_newB (Kd.R_new' (Kd.R_new' (Kd.R_new' (Kd.R_new' (Kd.R_new' (Kd.R_new' (Kd.R_new' ho0 (Kd.R_lt (z24_ HO717.out BK739.out))) (Kd.R_lt (z24_ HO719.out BK739.out))) (Kd.R_lt (z24_ HO722.out BK739.out))) (Kd.R_lt (z24_ HO726.out BK739.out))) (Kd.R_lt (z24_ HO728.out BK739.out))) (Kd.R_lt (z24_ HO731.out BK739.out))) (Kd.R_lt (z24_ HO737.out BK739.out))) (g:=gb734) (o:=.cells #[.int .i64 t732,.int .i64 t733] 49 (0,0)) (z34_ NB734_739.out BK734.out)) (below_size (z13_ HB.out GE734.out GE739.out)));have n8_:=aM (blk_below (g:=gb734) (o:=.cells #[.int .i64 t732,.int .i64 t733] 49 (0,0)) (z34_ NB734_739.out BK734.out) hb);have n9_:=aM (blk_below (g:=gb739) (o:=.cells #[.slice Ao56 t735.length co56,.int .i64 t738] 53 (0,0)) (z15_ BK739.out) hb);have n10_:=aM (below_step (z13_ HB.out GE734.out GE739.out) hb);clear HO717;clear HO719;clear HO722;clear HO726;clear HO728;clear HO731;clear HO737;clear BK734;clear BK739;clear HB;have HO717:=n0_;have HO719:=n1_;have HO722:=n2_;have HO726:=n3_;have HO728:=n4_;have HO731:=n5_;have HO737:=n6_;have HO743:=n7_;have BK734:=n8_;have BK739:=n9_;have HB:=n10_;clear n0_ n1_ n2_ n3_ n4_ n5_ n6_ n7_ n8_ n9_ n10_;(try clear hb);(try clear hb2);(try clear hk);(try clear hi);(try clear ho0)) | ((with_reducible refine gc_ 25 ?_);refine gl_ (some 58) Try.func25 #[.slice A0 l0.length c0] ?_;(with_reducible refine (Y43.calls kj2 _ _ l0 t744 t747 t748 _ ?s1 ?s2 A12.out).mono ?_);(case s1=>repeat (first | exact (Kd.C_below HR0.out HB.out) | (with_reducible refine Kd.C_alloc ?_ _) | (with_reducible refine Kd.C_drewN ?_ _) | (with_reducible refine Kd.C_drew ?_)));(case s2=>exact HC0.out);rintro e w60 ⟨v745,rfl,ho0,hb⟩;refine ⟨_,rfl,?_⟩;have n0_:=aM (Kd.R_elder' (z0_ HO717.out) (Kd.R_base ho0) hb);have n1_:=aM (Kd.R_elder' (z0_ HO719.out) (Kd.R_base ho0) hb);have n2_:=aM (Kd.R_elder' (z0_ HO722.out) (Kd.R_base ho0) hb);have n3_:=aM (Kd.R_elder' (z0_ HO726.out) (Kd.R_base ho0) hb);have n4_:=aM (Kd.R_elder' (z0_ HO728.out) (Kd.R_base ho0) hb);have n5_:=aM (Kd.R_elder' (z0_ HO731.out) (Kd.R_base ho0) hb);have n6_:=aM (Kd.R_elder' (z0_ HO737.out) (Kd.R_base ho0) hb);have n7_:=aM (Kd.R_elder' (z0_ HO743.out) (Kd.R_base ho0) hb);have n8_:=aM (Kd.R_lower (Kd.R_newB (Kd.R_new' (Kd.R_new' (Kd.R_new' (Kd.R_new' (Kd.R_new' (Kd.R_new' (Kd.R_new' (Kd.R_new' ho0 (Kd.R_lt (z0_ HO717.out))) (Kd.R_lt (z0_ HO719.out))) (Kd.R_lt (z0_ HO722.out))) (Kd.R_lt (z0_ HO726.out))) (Kd.R_lt (z0_ HO728.out))) (Kd.R_lt (z0_ HO731.out))) (Kd.R_lt (z0_ HO737.out))) (Kd.R_lt (z0_ HO743.out))) (g:=gb734) (o:=.cells #[.int .i64 t732,.int .i64 t733] 49 (0,0)) (z2_ BK734.out)) (below_size (z13_ HB.out GE734.out GE739.out)));have n9_:=aM (blkB_ BK734.out hb);have n10_:=aM (blkB_ BK739.out hb);have n11_:=aM (below_step (z13_ HB.out GE734.out GE739.out) hb);clear HO717;clear HO719;clear HO722;clear HO726;clear HO728;clear HO731;clear HO737;clear HO743;clear BK734;clear BK739;clear HB;have HO717:=n0_;have HO719:=n1_;have HO722:=n2_;have HO726:=n3_;have HO728:=n4_;have HO731:=n5_;have HO737:=n6_;have HO743:=n7_;have HO746:=n8_;have BK734:=n9_;have BK739:=n10_;have HB:=n11_;clear n0_ n1_ n2_ n3_ n4_ n5_ n6_ n7_ n8_ n9_ n10_ n11_;(try clear hb);(try clear ho0)) | ((with_reducible refine gd_ 16 ?_);(try (refine gate_guard (by rfl) ?_;dsimp only));refine be_ 16 #[.int .i64 0,.int .i64 0] 49 ?_;intro gb749 hg w61 hbox hb;have n0_:=aM (Kd.R_below (Kd.R_elderB (z0_ HO717.out) gb749 (Nat.le_of_eq hg.symm)) hb);have n1_:=aM (Kd.R_below (Kd.R_elderB (z0_ HO719.out) gb749 (Nat.le_of_eq hg.symm)) hb);have n2_:=aM (Kd.R_below (Kd.R_elderB (z0_ HO722.out) gb749 (Nat.le_of_eq hg.symm)) hb);have n3_:=aM (Kd.R_below (Kd.R_elderB (z0_ HO726.out) gb749 (Nat.le_of_eq hg.symm)) hb);have n4_:=aM (Kd.R_below (Kd.R_elderB (z0_ HO728.out) gb749 (Nat.le_of_eq hg.symm)) hb);have n5_:=aM (Kd.R_below (Kd.R_elderB (z0_ HO731.out) gb749 (Nat.le_of_eq hg.symm)) hb);have n6_:=aM (Kd.R_below (Kd.R_elderB (z0_ HO737.out) gb749 (Nat.le_of_eq hg.symm)) hb);have n7_:=aM (Kd.R_below (Kd.R_elderB (z0_ HO743.out) gb749 (Nat.le_of_eq hg.symm)) hb);have n8_:=aM (Kd.R_below (Kd.R_elderB (z0_ HO746.out) gb749 (Nat.le_of_eq hg.symm)) hb);have n9_:=aM (blkB_ BK734.out hb);have n10_:=aM (blkB_ BK739.out hb);have n11_:=aM (below_step (z13_ HB.out GE734.out GE739.out) hb);have n12_:=aM (hbox);have n13_:=aM ((by rw [hg];exact (below_size (by repeat (first | (with_reducible first | exact HB.out | apply below_alloc | apply pw_below_drewN | apply below_drew1 | refine below_set ?_ GE734.out | refine below_set ?_ GE739.out) | exact HB.out))):w.heap.size≤gb749));have n14_:=aM ((by rw [hg];exact (below_size (by repeat (first | (with_reducible first | exact HB.out | apply below_alloc | apply pw_below_drewN | apply below_drew1 | refine below_set ?_ GE734.out | refine below_set ?_ GE739.out) | exact HB.out))):w.heap.size≤gb749));have n15_:=aM (neL_ BK734.out hg);have n16_:=aM (neG_ BK734.out hg);have n17_:=aM (neL_ BK739.out hg);have n18_:=aM (neG_ BK739.out hg);clear HO717;clear HO719;clear HO722;clear HO726;clear HO728;clear HO731;clear HO737;clear HO743;clear HO746;clear BK734;clear BK739;clear HB;have HO717:=n0_;have HO719:=n1_;have HO722:=n2_;have HO726:=n3_;have HO728:=n4_;have HO731:=n5_;have HO737:=n6_;have HO743:=n7_;have HO746:=n8_;have BK734:=n9_;have BK739:=n10_;have HB:=n11_;have BK749:=n12_;have GW749:=n13_;have GE749:=n14_;have NB734_749:=n15_;have NB749_734:=n16_;have NB739_749:=n17_;have NB749_739:=n18_;clear n0_ n1_ n2_ n3_ n4_ n5_ n6_ n7_ n8_ n9_ n10_ n11_ n12_ n13_ n14_ n15_ n16_ n17_ n18_;clear hb hbox hg;have hnb62:=NB749_734.out;have hnc62:=NB734_749.out;have hnb63:=NB749_739.out;have hnc63:=NB739_749.out;have ⟨hcz64_0,hcz64_1,hfz64_0,hfz64_1⟩:=cz2_ BK749.out) | ((with_reducible refine gc_ 26 ?_);refine gl_ (some 62) Try.func26 #[.slice A1 l1.length c1] ?_;(with_reducible refine (Y44.calls kj2 _ _ l1 t750 _ ?s1 ?s2 A13.out).mono ?_);(case s1=>exact Kd.C_below HR1.out (z35_ HB.out GE734.out GE739.out GE749.out));(case s2=>exact HC1.out);rintro e w65 ⟨v751,rfl,ho0,hb⟩;refine ⟨_,rfl,?_⟩;have n0_:=aM (Kd.R_elder' (z20_ HO717.out) (Kd.R_base ho0) hb);have n1_:=aM (Kd.R_elder' (z20_ HO719.out) (Kd.R_base ho0) hb);have n2_:=aM (Kd.R_elder' (z20_ HO722.out) (Kd.R_base ho0) hb);have n3_:=aM (Kd.R_elder' (z20_ HO726.out) (Kd.R_base ho0) hb);have n4_:=aM (Kd.R_elder' (z20_ HO728.out) (Kd.R_base ho0) hb);have n5_:=aM (Kd.R_elder' (z20_ HO731.out) (Kd.R_base ho0) hb);have n6_:=aM (Kd.R_elder' (z20_ HO737.out) (Kd.R_base ho0) hb);have n7_:=aM (Kd.R_elder' (z20_ HO743.out) (Kd.R_base ho0) hb);have n8_:=aM (Kd.R_elder' (z20_ HO746.out) (Kd.R_base ho0) hb);have n9_:=aM (Kd.R_lower (Kd.R_newB (Kd.R_newB (Kd.R_new' (Kd.R_new' (Kd.R_new' (Kd.R_new' (Kd.R_new' (Kd.R_new' (Kd.R_new' (Kd.R_new' (Kd.R_new' ho0 (Kd.R_lt (z20_ HO717.out))) (Kd.R_lt (z20_ HO719.out))) (Kd.R_lt (z20_ HO722.out))) (Kd.R_lt (z20_ HO726.out))) (Kd.R_lt (z20_ HO728.out))) (Kd.R_lt (z20_ HO731.out))) (Kd.R_lt (z20_ HO737.out))) (Kd.R_lt (z20_ HO743.out))) (Kd.R_lt (z20_ HO746.out))) (g:=gb734) (o:=.cells #[.int .i64 t732,.int .i64 t733] 49 (0,0)) (z34_ NB734_749.out BK734.out)) (g:=gb749) (o:=.cells #[.int .i64 t747,.int .i64 t748] 49 (0,0)) (z15_ BK749.out)) (below_size (z35_ HB.out GE734.out GE739.out GE749.out)));have n10_:=aM (blk_below (g:=gb734) (o:=.cells #[.int .i64 t732,.int .i64 t733] 49 (0,0)) (z34_ NB734_749.out BK734.out) hb);have n11_:=aM (blk_below (g:=gb739) (o:=.cells #[.slice Ao56 t735.length co56,.int .i64 t738] 53 (0,0)) (z34_ NB739_749.out BK739.out) hb);have n12_:=aM (blk_below (g:=gb749) (o:=.cells #[.int .i64 t747,.int .i64 t748] 49 (0,0)) (z15_ BK749.out) hb);have n13_:=aM (below_step (z35_ HB.out GE734.out GE739.out GE749.out) hb);clear HO717;clear HO719;clear HO722;clear HO726;clear HO728;clear HO731;clear HO737;clear HO743;clear HO746;clear BK734;clear BK739;clear BK749;clear HB;have HO717:=n0_;have HO719:=n1_;have HO722:=n2_;have HO726:=n3_;have HO728:=n4_;have HO731:=n5_;have HO737:=n6_;have HO743:=n7_;have HO746:=n8_;have HO752:=n9_;have BK734:=n10_;have BK739:=n11_;have BK749:=n12_;have HB:=n13_;clear n0_ n1_ n2_ n3_ n4_ n5_ n6_ n7_ n8_ n9_ n10_ n11_ n12_ n13_;(try clear hb);(try clear hb2);(try clear hk);(try clear hi);(try clear ho0);obtain ⟨Ao66,co66,eo66⟩:=Kd.R_slice HO752.out;subst eo66) | ((with_reducible refine gc_ 27 ?_);refine gl_ (some 64) Try.func27 #[.slice Ao66 t750.length co66] ?_;(with_reducible refine (Y9.calls kj2 _ _ t750 t753 _ ?s1 ?s2 A14.out).mono ?_);(case s1=>repeat (first | exact (Kd.R_reads' HO752.out).2.2 | (with_reducible refine Kd.C_alloc ?_ _) | (with_reducible refine Kd.C_drewN ?_ _) | (with_reducible refine Kd.C_drew ?_)));(case s2=>exact (Kd.R_reads' HO752.out).2.1);rintro e w67 ⟨rfl,hb⟩;refine ⟨_,rfl,?_⟩;have n0_:=aM (Kd.R_below (z0_ HO717.out) hb);have n1_:=aM (Kd.R_below (z0_ HO719.out) hb);have n2_:=aM (Kd.R_below (z0_ HO722.out) hb);have n3_:=aM (Kd.R_below (z0_ HO726.out) hb);have n4_:=aM (Kd.R_below (z0_ HO728.out) hb);have n5_:=aM (Kd.R_below (z0_ HO731.out) hb);have n6_:=aM (Kd.R_below (z0_ HO737.out) hb);have n7_:=aM (Kd.R_below (z0_ HO743.out) hb);have n8_:=aM (Kd.R_below (z0_ HO746.out) hb);have n9_:=aM (Kd.R_below (z0_ HO752.out) hb);have n10_:=aM (blkB_ BK734.out hb);have n11_:=aM (blkB_ BK739.out hb);have n12_:=aM (blkB_ BK749.out hb);have n13_:=aM (below_step (z35_ HB.out GE734.out GE739.out GE749.out) hb);clear HO717;clear HO719;clear HO722;clear HO726;clear HO728;clear HO731;clear HO737;clear HO743;clear HO746;clear HO752;clear BK734;clear BK739;clear BK749;clear HB;have HO717:=n0_;have HO719:=n1_;have HO722:=n2_;have HO726:=n3_;have HO728:=n4_;have HO731:=n5_;have HO737:=n6_;have HO743:=n7_;have HO746:=n8_;have HO752:=n9_;have BK734:=n10_;have BK739:=n11_;have BK749:=n12_;have HB:=n13_;clear n0_ n1_ n2_ n3_ n4_ n5_ n6_ n7_ n8_ n9_ n10_ n11_ n12_ n13_;(try clear hb)) | ((with_reducible refine gc_ 28 ?_);refine gl_ (some 66) Try.func28 #[.slice A0 l0.length c0] ?_;(with_reducible refine (Y42.calls kj2 _ _ l0 t754 _ ?s1 ?s2 A15.out).mono ?_);(case s1=>repeat (first | exact (Kd.C_below HR0.out HB.out) | (with_reducible refine Kd.C_alloc ?_ _) | (with_reducible refine Kd.C_drewN ?_ _) | (with_reducible refine Kd.C_drew ?_)));(case s2=>exact HC0.out);rintro e w68 ⟨rfl,hb⟩;refine ⟨_,rfl,?_⟩;have n0_:=aM (Kd.R_below (z0_ HO717.out) hb);have n1_:=aM (Kd.R_below (z0_ HO719.out) hb);have n2_:=aM (Kd.R_below (z0_ HO722.out) hb);have n3_:=aM (Kd.R_below (z0_ HO726.out) hb);have n4_:=aM (Kd.R_below (z0_ HO728.out) hb);have n5_:=aM (Kd.R_below (z0_ HO731.out) hb);have n6_:=aM (Kd.R_below (z0_ HO737.out) hb);have n7_:=aM (Kd.R_below (z0_ HO743.out) hb);have n8_:=aM (Kd.R_below (z0_ HO746.out) hb);have n9_:=aM (Kd.R_below (z0_ HO752.out) hb);have n10_:=aM (blkB_ BK734.out hb);have n11_:=aM (blkB_ BK739.out hb);have n12_:=aM (blkB_ BK749.out hb);have n13_:=aM (below_step (z35_ HB.out GE734.out GE739.out GE749.out) hb);clear HO717;clear HO719;clear HO722;clear HO726;clear HO728;clear HO731;clear HO737;clear HO743;clear HO746;clear HO752;clear BK734;clear BK739;clear BK749;clear HB;have HO717:=n0_;have HO719:=n1_;have HO722:=n2_;have HO726:=n3_;have HO728:=n4_;have HO731:=n5_;have HO737:=n6_;have HO743:=n7_;have HO746:=n8_;have HO752:=n9_;have BK734:=n10_;have BK739:=n11_;have BK749:=n12_;have HB:=n13_;clear n0_ n1_ n2_ n3_ n4_ n5_ n6_ n7_ n8_ n9_ n10_ n11_ n12_ n13_;(try clear hb)) | ((with_reducible refine gc_ 29 ?_);refine gl_ (some 68) Try.func29 #[.string t754] ?_;(with_reducible refine (Y20.calls kj2 t754 t755 t758 _ A16.out).mono ?_);rintro e w69 ⟨v756,rfl,ho0,hb⟩;refine ⟨_,rfl,?_⟩;have n0_:=aM (Kd.R_elder' (z0_ HO717.out) (Kd.R_base ho0) hb);have n1_:=aM (Kd.R_elder' (z0_ HO719.out) (Kd.R_base ho0) hb);have n2_:=aM (Kd.R_elder' (z0_ HO722.out) (Kd.R_base ho0) hb);have n3_:=aM (Kd.R_elder' (z0_ HO726.out) (Kd.R_base ho0) hb);have n4_:=aM (Kd.R_elder' (z0_ HO728.out) (Kd.R_base ho0) hb);have n5_:=aM (Kd.R_elder' (z0_ HO731.out) (Kd.R_base ho0) hb);have n6_:=aM (Kd.R_elder' (z0_ HO737.out) (Kd.R_base ho0) hb);have n7_:=aM (Kd.R_elder' (z0_ HO743.out) (Kd.R_base ho0) hb);have n8_:=aM (Kd.R_elder' (z0_ HO746.out) (Kd.R_base ho0) hb);have n9_:=aM (Kd.R_elder' (z0_ HO752.out) (Kd.R_base ho0) hb);have n10_:=aM (Kd.R_lower (Kd.R_newB (Kd.R_newB (Kd.R_new' (Kd.R_new' (Kd.R_new' (Kd.R_new' (Kd.R_new' (Kd.R_new' (Kd.R_new' (Kd.R_new' (Kd.R_new' (Kd.R_new' ho0 (Kd.R_lt (z0_ HO717.out))) (Kd.R_lt (z0_ HO719.out))) (Kd.R_lt (z0_ HO722.out))) (Kd.R_lt (z0_ HO726.out))) (Kd.R_lt (z0_ HO728.out))) (Kd.R_lt (z0_ HO731.out))) (Kd.R_lt (z0_ HO737.out))) (Kd.R_lt (z0_ HO743.out))) (Kd.R_lt (z0_ HO746.out))) (Kd.R_lt (z0_ HO752.out))) (g:=gb734) (o:=.cells #[.int .i64 t732,.int .i64 t733] 49 (0,0)) (z2_ BK734.out)) (g:=gb749) (o:=.cells #[.int .i64 t747,.int .i64 t748] 49 (0,0)) (z2_ BK749.out)) (below_size (z35_ HB.out GE734.out GE739.out GE749.out)));have n11_:=aM (blkB_ BK734.out hb);have n12_:=aM (blkB_ BK739.out hb);have n13_:=aM (blkB_ BK749.out hb);have n14_:=aM (below_step (z35_ HB.out GE734.out GE739.out GE749.out) hb);clear HO717;clear HO719;clear HO722;clear HO726;clear HO728;clear HO731;clear HO737;clear HO743;clear HO746;clear HO752;clear BK734;clear BK739;clear BK749;clear HB;have HO717:=n0_;have HO719:=n1_;have HO722:=n2_;have HO726:=n3_;have HO728:=n4_;have HO731:=n5_;have HO737:=n6_;have HO743:=n7_;have HO746:=n8_;have HO752:=n9_;have HO757:=n10_;have BK734:=n11_;have BK739:=n12_;have BK749:=n13_;have HB:=n14_;clear n0_ n1_ n2_ n3_ n4_ n5_ n6_ n7_ n8_ n9_ n10_ n11_ n12_ n13_ n14_;(try clear hb);(try clear ho0)) | ((with_reducible refine gd_ 20 ?_);(try (refine gate_guard (by rfl) ?_;dsimp only));refine be_ 20 #[.slice none 0 0,.int .i64 0] 53 ?_;intro gb759 hg w70 hbox hb;have n0_:=aM (Kd.R_below (z0_ HO717.out) hb);have n1_:=aM (Kd.R_below (z0_ HO719.out) hb);have n2_:=aM (Kd.R_below (z0_ HO722.out) hb);have n3_:=aM (Kd.R_below (z0_ HO726.out) hb);have n4_:=aM (Kd.R_below (z0_ HO728.out) hb);have n5_:=aM (Kd.R_below (z0_ HO731.out) hb);have n6_:=aM (Kd.R_below (z0_ HO737.out) hb);have n7_:=aM (Kd.R_below (z0_ HO743.out) hb);have n8_:=aM (Kd.R_below (z0_ HO746.out) hb);have n9_:=aM (Kd.R_below (z0_ HO752.out) hb);have n10_:=aM (Kd.R_below (z0_ HO757.out) hb);have n11_:=aM (blkB_ BK734.out hb);have n12_:=aM (blkB_ BK739.out hb);have n13_:=aM (blkB_ BK749.out hb);have n14_:=aM (below_step (z35_ HB.out GE734.out GE739.out GE749.out) hb);have n15_:=aM (hbox);have n16_:=aM ((by rw [hg];exact (below_size (by repeat (first | (with_reducible first | exact HB.out | apply below_alloc | apply pw_below_drewN | apply below_drew1 | refine below_set ?_ GE734.out | refine below_set ?_ GE739.out | refine below_set ?_ GE749.out) | exact HB.out))):w.heap.size≤gb759));have n17_:=aM ((by rw [hg];exact (below_size (by repeat (first | (with_reducible first | exact HB.out | apply below_alloc | apply pw_below_drewN | apply below_drew1 | refine below_set ?_ GE734.out | refine below_set ?_ GE739.out | refine below_set ?_ GE749.out) | exact HB.out))):w.heap.size≤gb759));have n18_:=aM (neL_ BK734.out hg);have n19_:=aM (neG_ BK734.out hg);have n20_:=aM (neL_ BK739.out hg);have n21_:=aM (neG_ BK739.out hg);have n22_:=aM (neL_ BK749.out hg);have n23_:=aM (neG_ BK749.out hg);clear HO717;clear HO719;clear HO722;clear HO726;clear HO728;clear HO731;clear HO737;clear HO743;clear HO746;clear HO752;clear HO757;clear BK734;clear BK739;clear BK749;clear HB;have HO717:=n0_;have HO719:=n1_;have HO722:=n2_;have HO726:=n3_;have HO728:=n4_;have HO731:=n5_;have HO737:=n6_;have HO743:=n7_;have HO746:=n8_;have HO752:=n9_;have HO757:=n10_;have BK734:=n11_;have BK739:=n12_;have BK749:=n13_;have HB:=n14_;have BK759:=n15_;have GW759:=n16_;have GE759:=n17_;have NB734_759:=n18_;have NB759_734:=n19_;have NB739_759:=n20_;have NB759_739:=n21_;have NB749_759:=n22_;have NB759_749:=n23_;clear n0_ n1_ n2_ n3_ n4_ n5_ n6_ n7_ n8_ n9_ n10_ n11_ n12_ n13_ n14_ n15_ n16_ n17_ n18_ n19_ n20_ n21_ n22_ n23_;clear hb hbox hg;obtain ⟨Ao71,co71,eo71⟩:=Kd.R_slice HO757.out;subst eo71;have hnb72:=NB759_734.out;have hnc72:=NB734_759.out;have hnb73:=NB759_739.out;have hnc73:=NB739_759.out;have hnb74:=NB759_749.out;have hnc74:=NB749_759.out;have ⟨hcz75_0,hcz75_1,hfz75_0,hfz75_1⟩:=cz2_ BK759.out))
              have n0_:Aside0 (Kd.R k49 49 ((w70.setCell ⟨gb759,0,none⟩ (.slice Ao71 t755.length co71)).setCell ⟨gb759,1,none⟩ (.int .i64 t758)) w.heap.size (fun k_=>some k_≠(.slice Ao47 t715.length co47:Value).ownBlock∧some k_≠(v721:Value).ownBlock∧some k_≠(v725:Value).ownBlock∧some k_≠(v727:Value).ownBlock∧some k_≠(.slice Ao53 t729.length co53:Value).ownBlock∧some k_≠(.slice Ao56 t735.length co56:Value).ownBlock∧some k_≠(v742:Value).ownBlock∧some k_≠(v745:Value).ownBlock∧some k_≠(.slice Ao66 t750.length co66:Value).ownBlock∧some k_≠(.slice Ao71 t755.length co71:Value).ownBlock∧k_≠gb734∧k_≠gb749) (.slice Ao46 t714.length co46) t714):=⟨by (with_reducible repeat (first | apply Kd.R_alloc | apply Kd.R_drewN | apply Kd.R_drew));exact Kd.R_mono (rf2_ (Kd.R_types HO717.out BK759.out (by decide)) (fun _ hk=>hk.2)) (fun _ hk=>⟨hk.1.1.1.1.1.1.1.1.1.1.1.1,⟨hk.1.1.1.1.1.1.1.1.1.1.1.2,⟨hk.1.1.1.1.1.1.1.1.1.1.2,⟨hk.1.1.1.1.1.1.1.1.1.2,⟨hk.1.1.1.1.1.1.1.1.2,⟨hk.1.1.1.1.1.1.2,⟨hk.1.1.1.1.1.2,⟨hk.1.1.1.1.2,⟨hk.1.1.2,⟨hk.1.2,⟨hk.1.1.1.1.1.1.1.2,hk.1.1.1.2⟩⟩⟩⟩⟩⟩⟩⟩⟩⟩⟩)⟩
              have n1_:Aside0 (Kd.R k49 49 ((w70.setCell ⟨gb759,0,none⟩ (.slice Ao71 t755.length co71)).setCell ⟨gb759,1,none⟩ (.int .i64 t758)) w.heap.size (fun k_=>some k_≠(.slice Ao46 t714.length co46:Value).ownBlock∧some k_≠(v721:Value).ownBlock∧some k_≠(v725:Value).ownBlock∧some k_≠(v727:Value).ownBlock∧some k_≠(.slice Ao53 t729.length co53:Value).ownBlock∧some k_≠(.slice Ao56 t735.length co56:Value).ownBlock∧some k_≠(v742:Value).ownBlock∧some k_≠(v745:Value).ownBlock∧some k_≠(.slice Ao66 t750.length co66:Value).ownBlock∧some k_≠(.slice Ao71 t755.length co71:Value).ownBlock∧k_≠gb734∧k_≠gb749) (.slice Ao47 t715.length co47) t715):=⟨by (with_reducible repeat (first | apply Kd.R_alloc | apply Kd.R_drewN | apply Kd.R_drew));exact Kd.R_mono (rf2_ (Kd.R_types HO719.out BK759.out (by decide)) (fun _ hk=>hk.2)) (fun _ hk=>⟨hk.1.1.1.1.1.1.1.1.1.1.1.1,⟨hk.1.1.1.1.1.1.1.1.1.1.1.2,⟨hk.1.1.1.1.1.1.1.1.1.1.2,⟨hk.1.1.1.1.1.1.1.1.1.2,⟨hk.1.1.1.1.1.1.1.1.2,⟨hk.1.1.1.1.1.1.2,⟨hk.1.1.1.1.1.2,⟨hk.1.1.1.1.2,⟨hk.1.1.2,⟨hk.1.2,⟨hk.1.1.1.1.1.1.1.2,hk.1.1.1.2⟩⟩⟩⟩⟩⟩⟩⟩⟩⟩⟩)⟩
              have n2_:Aside0 (Kd.R k49 49 ((w70.setCell ⟨gb759,0,none⟩ (.slice Ao71 t755.length co71)).setCell ⟨gb759,1,none⟩ (.int .i64 t758)) w.heap.size (fun k_=>some k_≠(.slice Ao46 t714.length co46:Value).ownBlock∧some k_≠(.slice Ao47 t715.length co47:Value).ownBlock∧some k_≠(v725:Value).ownBlock∧some k_≠(v727:Value).ownBlock∧some k_≠(.slice Ao53 t729.length co53:Value).ownBlock∧some k_≠(.slice Ao56 t735.length co56:Value).ownBlock∧some k_≠(v742:Value).ownBlock∧some k_≠(v745:Value).ownBlock∧some k_≠(.slice Ao66 t750.length co66:Value).ownBlock∧some k_≠(.slice Ao71 t755.length co71:Value).ownBlock∧k_≠gb734∧k_≠gb749) v721 t720):=⟨by (with_reducible repeat (first | apply Kd.R_alloc | apply Kd.R_drewN | apply Kd.R_drew));exact Kd.R_mono (rf2_ (Kd.R_types HO722.out BK759.out (by decide)) (fun _ hk=>hk.2)) (fun _ hk=>⟨hk.1.1.1.1.1.1.1.1.1.1.1.1.2,⟨hk.1.1.1.1.1.1.1.1.1.1.1.2,⟨hk.1.1.1.1.1.1.1.1.1.1.2,⟨hk.1.1.1.1.1.1.1.1.1.2,⟨hk.1.1.1.1.1.1.1.1.2,⟨hk.1.1.1.1.1.1.2,⟨hk.1.1.1.1.1.2,⟨hk.1.1.1.1.2,⟨hk.1.1.2,⟨hk.1.2,⟨hk.1.1.1.1.1.1.1.2,hk.1.1.1.2⟩⟩⟩⟩⟩⟩⟩⟩⟩⟩⟩)⟩
              have n3_:Aside0 (Kd.R k49 49 ((w70.setCell ⟨gb759,0,none⟩ (.slice Ao71 t755.length co71)).setCell ⟨gb759,1,none⟩ (.int .i64 t758)) w.heap.size (fun k_=>some k_≠(.slice Ao46 t714.length co46:Value).ownBlock∧some k_≠(.slice Ao47 t715.length co47:Value).ownBlock∧some k_≠(v721:Value).ownBlock∧some k_≠(v727:Value).ownBlock∧some k_≠(.slice Ao53 t729.length co53:Value).ownBlock∧some k_≠(.slice Ao56 t735.length co56:Value).ownBlock∧some k_≠(v742:Value).ownBlock∧some k_≠(v745:Value).ownBlock∧some k_≠(.slice Ao66 t750.length co66:Value).ownBlock∧some k_≠(.slice Ao71 t755.length co71:Value).ownBlock∧k_≠gb734∧k_≠gb749) v725 t723):=⟨by (with_reducible repeat (first | apply Kd.R_alloc | apply Kd.R_drewN | apply Kd.R_drew));exact Kd.R_mono (rf2_ (Kd.R_types HO726.out BK759.out (by decide)) (fun _ hk=>hk.2)) (fun _ hk=>⟨hk.1.1.1.1.1.1.1.1.1.1.1.2,⟨hk.1.1.1.1.1.1.1.1.1.1.2,⟨hk.1.1.1.1.1.1.1.1.1.2,⟨hk.1.1.1.1.1.1.1.1.1.1.1.1,⟨hk.1.1.1.1.1.1.1.1.2,⟨hk.1.1.1.1.1.1.2,⟨hk.1.1.1.1.1.2,⟨hk.1.1.1.1.2,⟨hk.1.1.2,⟨hk.1.2,⟨hk.1.1.1.1.1.1.1.2,hk.1.1.1.2⟩⟩⟩⟩⟩⟩⟩⟩⟩⟩⟩)⟩
              have n4_:Aside0 (Kd.R k49 49 ((w70.setCell ⟨gb759,0,none⟩ (.slice Ao71 t755.length co71)).setCell ⟨gb759,1,none⟩ (.int .i64 t758)) w.heap.size (fun k_=>some k_≠(.slice Ao46 t714.length co46:Value).ownBlock∧some k_≠(.slice Ao47 t715.length co47:Value).ownBlock∧some k_≠(v721:Value).ownBlock∧some k_≠(v725:Value).ownBlock∧some k_≠(.slice Ao53 t729.length co53:Value).ownBlock∧some k_≠(.slice Ao56 t735.length co56:Value).ownBlock∧some k_≠(v742:Value).ownBlock∧some k_≠(v745:Value).ownBlock∧some k_≠(.slice Ao66 t750.length co66:Value).ownBlock∧some k_≠(.slice Ao71 t755.length co71:Value).ownBlock∧k_≠gb734∧k_≠gb749) v727 t724):=⟨by (with_reducible repeat (first | apply Kd.R_alloc | apply Kd.R_drewN | apply Kd.R_drew));exact Kd.R_mono (rf2_ (Kd.R_types HO728.out BK759.out (by decide)) (fun _ hk=>hk.2)) (fun _ hk=>⟨hk.1.1.1.1.1.1.1.1.1.1.1.2,⟨hk.1.1.1.1.1.1.1.1.1.1.2,⟨hk.1.1.1.1.1.1.1.1.1.2,⟨hk.1.1.1.1.1.1.1.1.1.1.1.1,⟨hk.1.1.1.1.1.1.1.1.2,⟨hk.1.1.1.1.1.1.2,⟨hk.1.1.1.1.1.2,⟨hk.1.1.1.1.2,⟨hk.1.1.2,⟨hk.1.2,⟨hk.1.1.1.1.1.1.1.2,hk.1.1.1.2⟩⟩⟩⟩⟩⟩⟩⟩⟩⟩⟩)⟩
              have n5_:Aside0 (Kd.R k49 49 ((w70.setCell ⟨gb759,0,none⟩ (.slice Ao71 t755.length co71)).setCell ⟨gb759,1,none⟩ (.int .i64 t758)) w.heap.size (fun k_=>some k_≠(.slice Ao46 t714.length co46:Value).ownBlock∧some k_≠(.slice Ao47 t715.length co47:Value).ownBlock∧some k_≠(v721:Value).ownBlock∧some k_≠(v725:Value).ownBlock∧some k_≠(v727:Value).ownBlock∧some k_≠(.slice Ao56 t735.length co56:Value).ownBlock∧some k_≠(v742:Value).ownBlock∧some k_≠(v745:Value).ownBlock∧some k_≠(.slice Ao66 t750.length co66:Value).ownBlock∧some k_≠(.slice Ao71 t755.length co71:Value).ownBlock∧k_≠gb734∧k_≠gb749) (.slice Ao53 t729.length co53) t729):=⟨by (with_reducible repeat (first | apply Kd.R_alloc | apply Kd.R_drewN | apply Kd.R_drew));exact Kd.R_mono (rf2_ (Kd.R_types HO731.out BK759.out (by decide)) (fun _ hk=>hk.2)) (fun _ hk=>⟨hk.1.1.1.1.1.1.1.1.1.1.1.1.2,⟨hk.1.1.1.1.1.1.1.1.1.1.1.2,⟨hk.1.1.1.1.1.1.1.1.1.1.2,⟨hk.1.1.1.1.1.1.1.1.1.2,⟨hk.1.1.1.1.1.1.1.1.2,⟨hk.1.1.1.1.1.1.2,⟨hk.1.1.1.1.1.2,⟨hk.1.1.1.1.2,⟨hk.1.1.2,⟨hk.1.2,⟨hk.1.1.1.1.1.1.1.2,hk.1.1.1.2⟩⟩⟩⟩⟩⟩⟩⟩⟩⟩⟩)⟩
              have n6_:Aside0 (Kd.R k49 49 ((w70.setCell ⟨gb759,0,none⟩ (.slice Ao71 t755.length co71)).setCell ⟨gb759,1,none⟩ (.int .i64 t758)) w.heap.size (fun k_=>some k_≠(.slice Ao46 t714.length co46:Value).ownBlock∧some k_≠(.slice Ao47 t715.length co47:Value).ownBlock∧some k_≠(v721:Value).ownBlock∧some k_≠(v725:Value).ownBlock∧some k_≠(v727:Value).ownBlock∧some k_≠(.slice Ao53 t729.length co53:Value).ownBlock∧some k_≠(v742:Value).ownBlock∧some k_≠(v745:Value).ownBlock∧some k_≠(.slice Ao66 t750.length co66:Value).ownBlock∧some k_≠(.slice Ao71 t755.length co71:Value).ownBlock∧k_≠gb734∧k_≠gb749) (.slice Ao56 t735.length co56) t735):=⟨by (with_reducible repeat (first | apply Kd.R_alloc | apply Kd.R_drewN | apply Kd.R_drew));exact Kd.R_mono (rf2_ (Kd.R_types HO737.out BK759.out (by decide)) (fun _ hk=>hk.2)) (fun _ hk=>⟨hk.1.1.1.1.1.1.1.1.1.1.1.1.2,⟨hk.1.1.1.1.1.1.1.1.1.1.1.2,⟨hk.1.1.1.1.1.1.1.1.1.1.2,⟨hk.1.1.1.1.1.1.1.1.1.2,⟨hk.1.1.1.1.1.1.1.1.2,⟨hk.1.1.1.1.1.1.1.2,⟨hk.1.1.1.1.1.2,⟨hk.1.1.1.1.2,⟨hk.1.1.2,⟨hk.1.2,⟨hk.1.1.1.1.1.1.2,hk.1.1.1.2⟩⟩⟩⟩⟩⟩⟩⟩⟩⟩⟩)⟩
              have n7_:Aside0 (Kd.R k49 49 ((w70.setCell ⟨gb759,0,none⟩ (.slice Ao71 t755.length co71)).setCell ⟨gb759,1,none⟩ (.int .i64 t758)) w.heap.size (fun k_=>some k_≠(.slice Ao46 t714.length co46:Value).ownBlock∧some k_≠(.slice Ao47 t715.length co47:Value).ownBlock∧some k_≠(v721:Value).ownBlock∧some k_≠(v725:Value).ownBlock∧some k_≠(v727:Value).ownBlock∧some k_≠(.slice Ao53 t729.length co53:Value).ownBlock∧some k_≠(.slice Ao56 t735.length co56:Value).ownBlock∧some k_≠(v745:Value).ownBlock∧some k_≠(.slice Ao66 t750.length co66:Value).ownBlock∧some k_≠(.slice Ao71 t755.length co71:Value).ownBlock∧k_≠gb734∧k_≠gb749) v742 t740):=⟨by (with_reducible repeat (first | apply Kd.R_alloc | apply Kd.R_drewN | apply Kd.R_drew));exact Kd.R_mono (rf2_ (Kd.R_types HO743.out BK759.out (by decide)) (fun _ hk=>hk.2)) (fun _ hk=>⟨hk.1.1.1.1.1.1.1.1.1.1.1.1.2,⟨hk.1.1.1.1.1.1.1.1.1.1.1.2,⟨hk.1.1.1.1.1.1.1.1.1.1.2,⟨hk.1.1.1.1.1.1.1.1.1.2,⟨hk.1.1.1.1.1.1.1.1.2,⟨hk.1.1.1.1.1.1.1.2,⟨hk.1.1.1.1.1.1.2,⟨hk.1.1.1.1.2,⟨hk.1.1.2,⟨hk.1.2,⟨hk.1.1.1.1.1.2,hk.1.1.1.2⟩⟩⟩⟩⟩⟩⟩⟩⟩⟩⟩)⟩
              have n8_:Aside0 (Kd.R k49 49 ((w70.setCell ⟨gb759,0,none⟩ (.slice Ao71 t755.length co71)).setCell ⟨gb759,1,none⟩ (.int .i64 t758)) w.heap.size (fun k_=>some k_≠(.slice Ao46 t714.length co46:Value).ownBlock∧some k_≠(.slice Ao47 t715.length co47:Value).ownBlock∧some k_≠(v721:Value).ownBlock∧some k_≠(v725:Value).ownBlock∧some k_≠(v727:Value).ownBlock∧some k_≠(.slice Ao53 t729.length co53:Value).ownBlock∧some k_≠(.slice Ao56 t735.length co56:Value).ownBlock∧some k_≠(v742:Value).ownBlock∧some k_≠(.slice Ao66 t750.length co66:Value).ownBlock∧some k_≠(.slice Ao71 t755.length co71:Value).ownBlock∧k_≠gb734∧k_≠gb749) v745 t744):=⟨by (with_reducible repeat (first | apply Kd.R_alloc | apply Kd.R_drewN | apply Kd.R_drew));exact Kd.R_mono (rf2_ (Kd.R_types HO746.out BK759.out (by decide)) (fun _ hk=>hk.2)) (fun _ hk=>⟨hk.1.1.1.1.1.1.1.1.1.1.1.1.2,⟨hk.1.1.1.1.1.1.1.1.1.1.1.2,⟨hk.1.1.1.1.1.1.1.1.1.1.2,⟨hk.1.1.1.1.1.1.1.1.1.2,⟨hk.1.1.1.1.1.1.1.1.2,⟨hk.1.1.1.1.1.1.1.2,⟨hk.1.1.1.1.1.1.2,⟨hk.1.1.1.1.1.2,⟨hk.1.1.2,⟨hk.1.2,⟨hk.1.1.1.1.2,hk.1.1.1.2⟩⟩⟩⟩⟩⟩⟩⟩⟩⟩⟩)⟩
              have n9_:Aside0 (Kd.R k49 49 ((w70.setCell ⟨gb759,0,none⟩ (.slice Ao71 t755.length co71)).setCell ⟨gb759,1,none⟩ (.int .i64 t758)) w.heap.size (fun k_=>some k_≠(.slice Ao46 t714.length co46:Value).ownBlock∧some k_≠(.slice Ao47 t715.length co47:Value).ownBlock∧some k_≠(v721:Value).ownBlock∧some k_≠(v725:Value).ownBlock∧some k_≠(v727:Value).ownBlock∧some k_≠(.slice Ao53 t729.length co53:Value).ownBlock∧some k_≠(.slice Ao56 t735.length co56:Value).ownBlock∧some k_≠(v742:Value).ownBlock∧some k_≠(v745:Value).ownBlock∧some k_≠(.slice Ao71 t755.length co71:Value).ownBlock∧k_≠gb734∧k_≠gb749) (.slice Ao66 t750.length co66) t750):=⟨by (with_reducible repeat (first | apply Kd.R_alloc | apply Kd.R_drewN | apply Kd.R_drew));exact Kd.R_mono (rf2_ (Kd.R_types HO752.out BK759.out (by decide)) (fun _ hk=>hk.2)) (fun _ hk=>⟨hk.1.1.1.1.1.1.1.1.1.1.1.1.2,⟨hk.1.1.1.1.1.1.1.1.1.1.1.2,⟨hk.1.1.1.1.1.1.1.1.1.1.2,⟨hk.1.1.1.1.1.1.1.1.1.2,⟨hk.1.1.1.1.1.1.1.1.2,⟨hk.1.1.1.1.1.1.1.2,⟨hk.1.1.1.1.1.1.2,⟨hk.1.1.1.1.1.2,⟨hk.1.1.1.1.2,⟨hk.1.2,⟨hk.1.1.1.2,hk.1.1.2⟩⟩⟩⟩⟩⟩⟩⟩⟩⟩⟩)⟩
              have n10_:Aside0 (Kd.R k49 49 ((w70.setCell ⟨gb759,0,none⟩ (.slice Ao71 t755.length co71)).setCell ⟨gb759,1,none⟩ (.int .i64 t758)) w.heap.size (fun k_=>some k_≠(.slice Ao46 t714.length co46:Value).ownBlock∧some k_≠(.slice Ao47 t715.length co47:Value).ownBlock∧some k_≠(v721:Value).ownBlock∧some k_≠(v725:Value).ownBlock∧some k_≠(v727:Value).ownBlock∧some k_≠(.slice Ao53 t729.length co53:Value).ownBlock∧some k_≠(.slice Ao56 t735.length co56:Value).ownBlock∧some k_≠(v742:Value).ownBlock∧some k_≠(v745:Value).ownBlock∧some k_≠(.slice Ao66 t750.length co66:Value).ownBlock∧k_≠gb734∧k_≠gb749) (.slice Ao71 t755.length co71) t755):=⟨by (with_reducible repeat (first | apply Kd.R_alloc | apply Kd.R_drewN | apply Kd.R_drew));exact Kd.R_mono (rf2_ (Kd.R_types HO757.out BK759.out (by decide)) (fun _ hk=>hk.2)) (fun _ hk=>⟨hk.1.1.1.1.1.1.1.1.1.1.1.1.2,⟨hk.1.1.1.1.1.1.1.1.1.1.1.2,⟨hk.1.1.1.1.1.1.1.1.1.1.2,⟨hk.1.1.1.1.1.1.1.1.1.2,⟨hk.1.1.1.1.1.1.1.1.2,⟨hk.1.1.1.1.1.1.1.2,⟨hk.1.1.1.1.1.1.2,⟨hk.1.1.1.1.1.2,⟨hk.1.1.1.1.2,⟨hk.1.1.1.2,⟨hk.1.1.2,hk.1.2⟩⟩⟩⟩⟩⟩⟩⟩⟩⟩⟩)⟩
              have n11_:Aside0 (((w70.setCell ⟨gb759,0,none⟩ (.slice Ao71 t755.length co71)).setCell ⟨gb759,1,none⟩ (.int .i64 t758)).heap[gb734]? = some (.cells #[.int .i64 t732,.int .i64 t733] 49 (0,0))):=⟨z34_ NB734_759.out BK734.out⟩
              have n12_:Aside0 (((w70.setCell ⟨gb759,0,none⟩ (.slice Ao71 t755.length co71)).setCell ⟨gb759,1,none⟩ (.int .i64 t758)).heap[gb739]? = some (.cells #[.slice Ao56 t735.length co56,.int .i64 t738] 53 (0,0))):=⟨z34_ NB739_759.out BK739.out⟩
              have n13_:Aside0 (((w70.setCell ⟨gb759,0,none⟩ (.slice Ao71 t755.length co71)).setCell ⟨gb759,1,none⟩ (.int .i64 t758)).heap[gb749]? = some (.cells #[.int .i64 t747,.int .i64 t748] 49 (0,0))):=⟨z34_ NB749_759.out BK749.out⟩
              have n14_:Aside0 (((w70.setCell ⟨gb759,0,none⟩ (.slice Ao71 t755.length co71)).setCell ⟨gb759,1,none⟩ (.int .i64 t758)).heap[gb759]? = some (.cells #[.slice Ao71 t755.length co71,.int .i64 t758] 53 (0,0))):=⟨z15_ BK759.out⟩
              have n15_:Aside0 (Below w.heap.size w ((w70.setCell ⟨gb759,0,none⟩ (.slice Ao71 t755.length co71)).setCell ⟨gb759,1,none⟩ (.int .i64 t758))):=⟨z9_ HB.out GE734.out GE739.out GE749.out GE759.out⟩
              (try clear HO717)
              (try clear HO719)
              (try clear HO722)
              (try clear HO726)
              (try clear HO728)
              (try clear HO731)
              (try clear HO737)
              (try clear HO743)
              (try clear HO746)
              (try clear HO752)
              (try clear HO757)
              (try clear BK734)
              (try clear BK739)
              (try clear BK749)
              (try clear BK759)
              (try clear HB)
              generalize ((w70.setCell ⟨gb759,0,none⟩ (.slice Ao71 t755.length co71)).setCell ⟨gb759,1,none⟩ (.int .i64 t758))=w76 at n0_ n1_ n2_ n3_ n4_ n5_ n6_ n7_ n8_ n9_ n10_ n11_ n12_ n13_ n14_ n15_ ⊢
              have HO717:=n0_
              have HO719:=n1_
              have HO722:=n2_
              have HO726:=n3_
              have HO728:=n4_
              have HO731:=n5_
              have HO737:=n6_
              have HO743:=n7_
              have HO746:=n8_
              have HO752:=n9_
              have HO757:=n10_
              have BK734:=n11_
              have BK739:=n12_
              have BK749:=n13_
              have BK759:=n14_
              have HB:=n15_
              clear n0_ n1_ n2_ n3_ n4_ n5_ n6_ n7_ n8_ n9_ n10_ n11_ n12_ n13_ n14_ n15_
              have n0_:=aM (Kd.R_drew HO717.out)
              have n1_:=aM (Kd.R_drew HO719.out)
              have n2_:=aM (Kd.R_drew HO722.out)
              have n3_:=aM (Kd.R_drew HO726.out)
              have n4_:=aM (Kd.R_drew HO728.out)
              have n5_:=aM (Kd.R_drew HO731.out)
              have n6_:=aM (Kd.R_drew HO737.out)
              have n7_:=aM (Kd.R_drew HO743.out)
              have n8_:=aM (Kd.R_drew HO746.out)
              have n9_:=aM (Kd.R_drew HO752.out)
              have n10_:=aM (Kd.R_drew HO757.out)
              have n11_:=aM (blk_drew BK734.out)
              have n12_:=aM (blk_drew BK739.out)
              have n13_:=aM (blk_drew BK749.out)
              have n14_:=aM (blk_drew BK759.out)
              have n15_:=aM (below_drew1 HB.out)
              clear HO717
              clear HO719
              clear HO722
              clear HO726
              clear HO728
              clear HO731
              clear HO737
              clear HO743
              clear HO746
              clear HO752
              clear HO757
              clear BK734
              clear BK739
              clear BK749
              clear BK759
              clear HB
              have HO717:=n0_
              have HO719:=n1_
              have HO722:=n2_
              have HO726:=n3_
              have HO728:=n4_
              have HO731:=n5_
              have HO737:=n6_
              have HO743:=n7_
              have HO746:=n8_
              have HO752:=n9_
              have HO757:=n10_
              have BK734:=n11_
              have BK739:=n12_
              have BK749:=n13_
              have BK759:=n14_
              have HB:=n15_
              clear n0_ n1_ n2_ n3_ n4_ n5_ n6_ n7_ n8_ n9_ n10_ n11_ n12_ n13_ n14_ n15_
              refine start_ (n:=82) (S:=fun w'=>w'.cell? ⟨gb739,0,none⟩=some (.slice Ao56 t735.length co56)∧w'.cell? ⟨gb739,1,none⟩=some (.int .i64 t738)∧w'.cell? ⟨gb734,0,none⟩=some (.int .i64 t732)∧w'.cell? ⟨gb734,1,none⟩=some (.int .i64 t733)∧w'.cell? ⟨gb749,0,none⟩=some (.int .i64 t747)∧w'.cell? ⟨gb749,1,none⟩=some (.int .i64 t748)∧w'.cell? ⟨gb759,0,none⟩=some (.slice Ao71 t755.length co71)∧w'.cell? ⟨gb759,1,none⟩=some (.int .i64 t758)) (ds:=[]) #[O,O,O,O,O,O,O,O,O,O,O,O,O,O,O,O,O,O,O,O,O,O,O,O,O,O,O,O,O,O,O,O,O,O,O,O,O,O,O,O,O,O,O,O,O,O,O,O,O,O,O,O,O,O,O,O,O,O,O,O,O,O,O,O,O,O,O,O,O,O,O,O,O,O,O,O,O,O,O,O,O,O] (by kernel_rfl) rfl rfl (cj2_ BK739.out (cj2_ BK734.out (cj2_ BK749.out (cc2_ BK759.out)))) (fun hHeld=>?_);refine with_tabW Y0.tab14 Y0.bits14 (fun HT_ HW_=>?_)
              generalize w76.drew=w77 at HO717 HO719 HO722 HO726 HO728 HO731 HO737 HO743 HO746 HO752 HO757 BK734 BK739 BK749 BK759 HB hHeld ⊢
              refine pu_ 0 69 #[I,O,O,O,O,O,O,O,O,O,O,O,O,O,O,O,O,O,O,O,O,O,O,O,O,O,O,O,O,O,O,O,O,O,O,O,O,O,O,O,O,O,O,O,O,O,O,O,O,O,O,O,O,O,O,O,O,O,O,O,O,O,O,O,O,O,O,O,O,O,O,O,O,O,O,O,O,O,O,O,O,O] HT_.out ?_
              refine pu_ 1 70 #[I,I,O,O,O,O,O,O,O,O,O,O,O,O,O,O,O,O,O,O,O,O,O,O,O,O,O,O,O,O,O,O,O,O,O,O,O,O,O,O,O,O,O,O,O,O,O,O,O,O,O,O,O,O,O,O,O,O,O,O,O,O,O,O,O,O,O,O,O,O,O,O,O,O,O,O,O,O,O,O,O,O] HT_.out ?_
              refine pu_ 2 71 #[I,I,I,O,O,O,O,O,O,O,O,O,O,O,O,O,O,O,O,O,O,O,O,O,O,O,O,O,O,O,O,O,O,O,O,O,O,O,O,O,O,O,O,O,O,O,O,O,O,O,O,O,O,O,O,O,O,O,O,O,O,O,O,O,O,O,O,O,O,O,O,O,O,O,O,O,O,O,O,O,O,O] HT_.out ?_
              refine o1_ 3 72 #[I,I,I,I,O,O,O,O,O,O,O,O,O,O,O,O,O,O,O,O,O,O,O,O,O,O,O,O,O,O,O,O,O,O,O,O,O,O,O,O,O,O,O,O,O,O,O,O,O,O,O,O,O,O,O,O,O,O,O,O,O,O,O,O,O,O,O,O,O,O,O,O,O,O,O,O,O,O,O,O,O,O] HT_.out (fun K hK=>?_)
              refine gs_ Try.func31 #[.slice Ao46 t714.length co46,.slice Ao47 t715.length co47] ?_
              with_reducible refine (Y47.calls kj2 _ _ t714 _ _ t715 t760 _ ?s1 ?s2 ?s3 ?s4 A17.out).mono ?_
              (case s1=>repeat (first | exact (Kd.R_reads' HO717.out).2.2 | (with_reducible refine Kd.C_alloc ?_ _) | (with_reducible refine Kd.C_drewN ?_ _) | (with_reducible refine Kd.C_drew ?_)))
              (case s2=>exact (Kd.R_reads' HO717.out).2.1)
              (case s3=>repeat (first | exact (Kd.R_reads' HO719.out).2.2 | (with_reducible refine Kd.C_alloc ?_ _) | (with_reducible refine Kd.C_drewN ?_ _) | (with_reducible refine Kd.C_drew ?_)))
              (case s4=>exact (Kd.R_reads' HO719.out).2.1)
              rintro e w78 ⟨v761,rfl,ho0,hb⟩
              refine ⟨_,rfl,?_⟩
              have n0_:=aM (Kd.R_elder' (z0_ HO717.out) (Kd.R_base ho0) hb)
              have n1_:=aM (Kd.R_elder' (z0_ HO719.out) (Kd.R_base ho0) hb)
              have n2_:=aM (Kd.R_elder' (z0_ HO722.out) (Kd.R_base ho0) hb)
              have n3_:=aM (Kd.R_elder' (z0_ HO726.out) (Kd.R_base ho0) hb)
              have n4_:=aM (Kd.R_elder' (z0_ HO728.out) (Kd.R_base ho0) hb)
              have n5_:=aM (Kd.R_elder' (z0_ HO731.out) (Kd.R_base ho0) hb)
              have n6_:=aM (Kd.R_elder' (z0_ HO737.out) (Kd.R_base ho0) hb)
              have n7_:=aM (Kd.R_elder' (z0_ HO743.out) (Kd.R_base ho0) hb)
              have n8_:=aM (Kd.R_elder' (z0_ HO746.out) (Kd.R_base ho0) hb)
              have n9_:=aM (Kd.R_elder' (z0_ HO752.out) (Kd.R_base ho0) hb)
              have n10_:=aM (Kd.R_elder' (z0_ HO757.out) (Kd.R_base ho0) hb)
              have n11_:=aM (Kd.R_lower (Kd.R_newB (Kd.R_newB (Kd.R_new' (Kd.R_new' (Kd.R_new' (Kd.R_new' (Kd.R_new' (Kd.R_new' (Kd.R_new' (Kd.R_new' (Kd.R_new' (Kd.R_new' (Kd.R_new' ho0 (Kd.R_lt (z0_ HO717.out))) (Kd.R_lt (z0_ HO719.out))) (Kd.R_lt (z0_ HO722.out))) (Kd.R_lt (z0_ HO726.out))) (Kd.R_lt (z0_ HO728.out))) (Kd.R_lt (z0_ HO731.out))) (Kd.R_lt (z0_ HO737.out))) (Kd.R_lt (z0_ HO743.out))) (Kd.R_lt (z0_ HO746.out))) (Kd.R_lt (z0_ HO752.out))) (Kd.R_lt (z0_ HO757.out))) (g:=gb734) (o:=.cells #[.int .i64 t732,.int .i64 t733] 49 (0,0)) (z2_ BK734.out)) (g:=gb749) (o:=.cells #[.int .i64 t747,.int .i64 t748] 49 (0,0)) (z2_ BK749.out)) (below_size (z9_ HB.out GE734.out GE739.out GE749.out GE759.out)))
              have n12_:=aM (blkB_ BK734.out hb)
              have n13_:=aM (blkB_ BK739.out hb)
              have n14_:=aM (blkB_ BK749.out hb)
              have n15_:=aM (blkB_ BK759.out hb)
              have n16_:=aM (below_step (z9_ HB.out GE734.out GE739.out GE749.out GE759.out) hb)
              clear HO717
              clear HO719
              clear HO722
              clear HO726
              clear HO728
              clear HO731
              clear HO737
              clear HO743
              clear HO746
              clear HO752
              clear HO757
              clear BK734
              clear BK739
              clear BK749
              clear BK759
              clear HB
              have HO717:=n0_
              have HO719:=n1_
              have HO722:=n2_
              have HO726:=n3_
              have HO728:=n4_
              have HO731:=n5_
              have HO737:=n6_
              have HO743:=n7_
              have HO746:=n8_
              have HO752:=n9_
              have HO757:=n10_
              have HO762:=n11_
              have BK734:=n12_
              have BK739:=n13_
              have BK749:=n14_
              have BK759:=n15_
              have HB:=n16_
              clear n0_ n1_ n2_ n3_ n4_ n5_ n6_ n7_ n8_ n9_ n10_ n11_ n12_ n13_ n14_ n15_ n16_
              (try clear hb)
              (try clear hb2)
              (try clear hk)
              (try clear hi)
              (try clear ho0)
              obtain ⟨Ao79,co79,eo79⟩:=Kd.R_slice HO722.out
              (first | subst eo79 | (injection eo79 with f1_ f2_ f3_;have f4_:=f1_.symm;have f5_:=f3_.symm;clear f1_ f2_ f3_;subst f4_;subst f5_))
              obtain ⟨Ao80,co80,eo80⟩:=Kd.R_slice HO762.out
              (first | subst eo80 | (injection eo80 with f1_ f2_ f3_;have f4_:=f1_.symm;have f5_:=f3_.symm;clear f1_ f2_ f3_;subst f4_;subst f5_))
              refine hK.out _ _ (cj2_ BK739.out (cj2_ BK734.out (cj2_ BK749.out (cc2_ BK759.out)))) (fun hHeld=>?_)
              clear hK K
              refine nm_ 72 ?_
              refine o1_ 4 73 #[I,I,I,I,I,O,O,O,O,O,O,O,O,O,O,O,O,O,O,O,O,O,O,O,O,O,O,O,O,O,O,O,O,O,O,O,O,O,O,O,O,O,O,O,O,O,O,O,O,O,O,O,O,O,O,O,O,O,O,O,O,O,O,O,O,O,O,O,O,O,O,O,O,O,O,O,O,O,O,O,O,O] HT_.out (fun K hK=>?_)
              refine gs_ Try.func30 #[.slice Ao79 t720.length co79,.slice Ao80 t760.length co80] ?_
              with_reducible refine (Y6.calls kj2 _ _ t720 _ _ t760 true _ ?s1 ?s2 ?s3 ?s4 A18.out).mono ?_
              (case s1=>repeat (first | exact (Kd.R_reads' HO722.out).2.2 | (with_reducible refine Kd.C_alloc ?_ _) | (with_reducible refine Kd.C_drewN ?_ _) | (with_reducible refine Kd.C_drew ?_)))
              (case s2=>exact (Kd.R_reads' HO722.out).2.1)
              (case s3=>repeat (first | exact (Kd.R_reads' HO762.out).2.2 | (with_reducible refine Kd.C_alloc ?_ _) | (with_reducible refine Kd.C_drewN ?_ _) | (with_reducible refine Kd.C_drew ?_)))
              (case s4=>exact (Kd.R_reads' HO762.out).2.1)
              rintro e w' ⟨rfl,⟨nd,rfl⟩⟩
              refine ⟨_,rfl,?_⟩
              obtain ⟨Ao81,co81,eo81⟩:=Kd.R_slice HO726.out
              (first | subst eo81 | (injection eo81 with f1_ f2_ f3_;have f4_:=f1_.symm;have f5_:=f3_.symm;clear f1_ f2_ f3_;subst f4_;subst f5_))
              obtain ⟨Ao82,co82,eo82⟩:=Kd.R_slice HO728.out
              (first | subst eo82 | (injection eo82 with f1_ f2_ f3_;have f4_:=f1_.symm;have f5_:=f3_.symm;clear f1_ f2_ f3_;subst f4_;subst f5_))
              refine hK.out _ _ (cj2_ BK739.out (cj2_ BK734.out (cj2_ BK749.out (cc2_ BK759.out)))) (fun hHeld=>?_)
              clear hK K
              refine nm_ 73 ?_
              refine pu_ 5 74 #[I,I,I,I,I,I,O,O,O,O,O,O,O,O,O,O,O,O,O,O,O,O,O,O,O,O,O,O,O,O,O,O,O,O,O,O,O,O,O,O,O,O,O,O,O,O,O,O,O,O,O,O,O,O,O,O,O,O,O,O,O,O,O,O,O,O,O,O,O,O,O,O,O,O,O,O,O,O,O,O,O,O] HT_.out ?_
              refine pu_ 6 75 #[I,I,I,I,I,I,I,O,O,O,O,O,O,O,O,O,O,O,O,O,O,O,O,O,O,O,O,O,O,O,O,O,O,O,O,O,O,O,O,O,O,O,O,O,O,O,O,O,O,O,O,O,O,O,O,O,O,O,O,O,O,O,O,O,O,O,O,O,O,O,O,O,O,O,O,O,O,O,O,O,O,O] HT_.out ?_
              refine pu_ 7 76 #[I,I,I,I,I,I,I,I,O,O,O,O,O,O,O,O,O,O,O,O,O,O,O,O,O,O,O,O,O,O,O,O,O,O,O,O,O,O,O,O,O,O,O,O,O,O,O,O,O,O,O,O,O,O,O,O,O,O,O,O,O,O,O,O,O,O,O,O,O,O,O,O,O,O,O,O,O,O,O,O,O,O] HT_.out ?_
              refine pu_ 8 77 #[I,I,I,I,I,I,I,I,I,O,O,O,O,O,O,O,O,O,O,O,O,O,O,O,O,O,O,O,O,O,O,O,O,O,O,O,O,O,O,O,O,O,O,O,O,O,O,O,O,O,O,O,O,O,O,O,O,O,O,O,O,O,O,O,O,O,O,O,O,O,O,O,O,O,O,O,O,O,O,O,O,O] HT_.out ?_
              refine pu_ 10 79 #[I,I,I,I,I,I,I,I,I,O,I,O,O,O,O,O,O,O,O,O,O,O,O,O,O,O,O,O,O,O,O,O,O,O,O,O,O,O,O,O,O,O,O,O,O,O,O,O,O,O,O,O,O,O,O,O,O,O,O,O,O,O,O,O,O,O,O,O,O,O,O,O,O,O,O,O,O,O,O,O,O,O] HT_.out ?_
              refine pu_ 11 80 #[I,I,I,I,I,I,I,I,I,O,I,I,O,O,O,O,O,O,O,O,O,O,O,O,O,O,O,O,O,O,O,O,O,O,O,O,O,O,O,O,O,O,O,O,O,O,O,O,O,O,O,O,O,O,O,O,O,O,O,O,O,O,O,O,O,O,O,O,O,O,O,O,O,O,O,O,O,O,O,O,O,O] HT_.out ?_
              refine o1_ 9 78 #[I,I,I,I,I,I,I,I,I,I,I,I,O,O,O,O,O,O,O,O,O,O,O,O,O,O,O,O,O,O,O,O,O,O,O,O,O,O,O,O,O,O,O,O,O,O,O,O,O,O,O,O,O,O,O,O,O,O,O,O,O,O,O,O,O,O,O,O,O,O,O,O,O,O,O,O,O,O,O,O,O,O] HT_.out (fun K hK=>?_)
              refine gs_ Try.func32 #[.slice Ao81 t723.length co81,.slice Ao82 t724.length co82] ?_
              with_reducible refine (Y32.calls kj2 _ _ t723 _ _ t724 t764 _ ?s1 ?s2 ?s3 ?s4 A20.out).mono ?_
              (case s1=>repeat (first | exact (Kd.R_reads' HO726.out).2.2 | (with_reducible refine Kd.C_alloc ?_ _) | (with_reducible refine Kd.C_drewN ?_ _) | (with_reducible refine Kd.C_drew ?_)))
              (case s2=>exact (Kd.R_reads' HO726.out).2.1)
              (case s3=>repeat (first | exact (Kd.R_reads' HO728.out).2.2 | (with_reducible refine Kd.C_alloc ?_ _) | (with_reducible refine Kd.C_drewN ?_ _) | (with_reducible refine Kd.C_drew ?_)))
              (case s4=>exact (Kd.R_reads' HO728.out).2.1)
              rintro e w83 ⟨rfl,hb⟩
              refine ⟨_,rfl,?_⟩
              have n0_:=aM (Kd.R_below (z0_ HO717.out) hb)
              have n1_:=aM (Kd.R_below (z0_ HO719.out) hb)
              have n2_:=aM (Kd.R_below (z0_ HO722.out) hb)
              have n3_:=aM (Kd.R_below (z0_ HO726.out) hb)
              have n4_:=aM (Kd.R_below (z0_ HO728.out) hb)
              have n5_:=aM (Kd.R_below (z0_ HO731.out) hb)
              have n6_:=aM (Kd.R_below (z0_ HO737.out) hb)
              have n7_:=aM (Kd.R_below (z0_ HO743.out) hb)
              have n8_:=aM (Kd.R_below (z0_ HO746.out) hb)
              have n9_:=aM (Kd.R_below (z0_ HO752.out) hb)
              have n10_:=aM (Kd.R_below (z0_ HO757.out) hb)
              have n11_:=aM (Kd.R_below (z0_ HO762.out) hb)
              have n12_:=aM (blkB_ BK734.out hb)
              have n13_:=aM (blkB_ BK739.out hb)
              have n14_:=aM (blkB_ BK749.out hb)
              have n15_:=aM (blkB_ BK759.out hb)
              have n16_:=aM (below_step (z9_ HB.out GE734.out GE739.out GE749.out GE759.out) hb)
              clear HO717
              clear HO719
              clear HO722
              clear HO726
              clear HO728
              clear HO731
              clear HO737
              clear HO743
              clear HO746
              clear HO752
              clear HO757
              clear HO762
              clear BK734
              clear BK739
              clear BK749
              clear BK759
              clear HB
              have HO717:=n0_
              have HO719:=n1_
              have HO722:=n2_
              have HO726:=n3_
              have HO728:=n4_
              have HO731:=n5_
              have HO737:=n6_
              have HO743:=n7_
              have HO746:=n8_
              have HO752:=n9_
              have HO757:=n10_
              have HO762:=n11_
              have BK734:=n12_
              have BK739:=n13_
              have BK749:=n14_
              have BK759:=n15_
              have HB:=n16_
              clear n0_ n1_ n2_ n3_ n4_ n5_ n6_ n7_ n8_ n9_ n10_ n11_ n12_ n13_ n14_ n15_ n16_
              (try clear hb)
              refine hK.out _ _ (cj2_ BK739.out (cj2_ BK734.out (cj2_ BK749.out (cc2_ BK759.out)))) (fun hHeld=>?_)
              clear hK K
              refine nm_ 78 ?_
              refine o1_ 12 81 #[I,I,I,I,I,I,I,I,I,I,I,I,I,O,O,O,O,O,O,O,O,O,O,O,O,O,O,O,O,O,O,O,O,O,O,O,O,O,O,O,O,O,O,O,O,O,O,O,O,O,O,O,O,O,O,O,O,O,O,O,O,O,O,O,O,O,O,O,O,O,O,O,O,O,O,O,O,O,O,O,O,O] HT_.out (fun K hK=>?_)
              refine gs_ Try.func33 #[.slice Ao81 t723.length co81,.slice Ao82 t724.length co82] ?_
              with_reducible refine (Y17.calls kj2 _ _ t723 _ _ t724 t765 _ ?s1 ?s2 ?s3 ?s4 A21.out).mono ?_
              (case s1=>repeat (first | exact (Kd.R_reads' HO726.out).2.2 | (with_reducible refine Kd.C_alloc ?_ _) | (with_reducible refine Kd.C_drewN ?_ _) | (with_reducible refine Kd.C_drew ?_)))
              (case s2=>exact (Kd.R_reads' HO726.out).2.1)
              (case s3=>repeat (first | exact (Kd.R_reads' HO728.out).2.2 | (with_reducible refine Kd.C_alloc ?_ _) | (with_reducible refine Kd.C_drewN ?_ _) | (with_reducible refine Kd.C_drew ?_)))
              (case s4=>exact (Kd.R_reads' HO728.out).2.1)
              rintro e w84 ⟨rfl,hb⟩
              refine ⟨_,rfl,?_⟩
              have n0_:=aM (Kd.R_below (z0_ HO717.out) hb)
              have n1_:=aM (Kd.R_below (z0_ HO719.out) hb)
              have n2_:=aM (Kd.R_below (z0_ HO722.out) hb)
              have n3_:=aM (Kd.R_below (z0_ HO726.out) hb)
              have n4_:=aM (Kd.R_below (z0_ HO728.out) hb)
              have n5_:=aM (Kd.R_below (z0_ HO731.out) hb)
              have n6_:=aM (Kd.R_below (z0_ HO737.out) hb)
              have n7_:=aM (Kd.R_below (z0_ HO743.out) hb)
              have n8_:=aM (Kd.R_below (z0_ HO746.out) hb)
              have n9_:=aM (Kd.R_below (z0_ HO752.out) hb)
              have n10_:=aM (Kd.R_below (z0_ HO757.out) hb)
              have n11_:=aM (Kd.R_below (z0_ HO762.out) hb)
              have n12_:=aM (blkB_ BK734.out hb)
              have n13_:=aM (blkB_ BK739.out hb)
              have n14_:=aM (blkB_ BK749.out hb)
              have n15_:=aM (blkB_ BK759.out hb)
              have n16_:=aM (below_step (z9_ HB.out GE734.out GE739.out GE749.out GE759.out) hb)
              clear HO717
              clear HO719
              clear HO722
              clear HO726
              clear HO728
              clear HO731
              clear HO737
              clear HO743
              clear HO746
              clear HO752
              clear HO757
              clear HO762
              clear BK734
              clear BK739
              clear BK749
              clear BK759
              clear HB
              have HO717:=n0_
              have HO719:=n1_
              have HO722:=n2_
              have HO726:=n3_
              have HO728:=n4_
              have HO731:=n5_
              have HO737:=n6_
              have HO743:=n7_
              have HO746:=n8_
              have HO752:=n9_
              have HO757:=n10_
              have HO762:=n11_
              have BK734:=n12_
              have BK739:=n13_
              have BK749:=n14_
              have BK759:=n15_
              have HB:=n16_
              clear n0_ n1_ n2_ n3_ n4_ n5_ n6_ n7_ n8_ n9_ n10_ n11_ n12_ n13_ n14_ n15_ n16_
              (try clear hb)
              refine hK.out _ _ (cj2_ BK739.out (cj2_ BK734.out (cj2_ BK749.out (cc2_ BK759.out)))) (fun hHeld=>?_)
              clear hK K
              refine nm_ 81 ?_
              refine pu_ 13 82 #[I,I,I,I,I,I,I,I,I,I,I,I,I,I,O,O,O,O,O,O,O,O,O,O,O,O,O,O,O,O,O,O,O,O,O,O,O,O,O,O,O,O,O,O,O,O,O,O,O,O,O,O,O,O,O,O,O,O,O,O,O,O,O,O,O,O,O,O,O,O,O,O,O,O,O,O,O,O,O,O,O,O] HT_.out ?_
              refine pu_ 14 83 #[I,I,I,I,I,I,I,I,I,I,I,I,I,I,I,O,O,O,O,O,O,O,O,O,O,O,O,O,O,O,O,O,O,O,O,O,O,O,O,O,O,O,O,O,O,O,O,O,O,O,O,O,O,O,O,O,O,O,O,O,O,O,O,O,O,O,O,O,O,O,O,O,O,O,O,O,O,O,O,O,O,O] HT_.out ?_
              refine pu_ 15 84 #[I,I,I,I,I,I,I,I,I,I,I,I,I,I,I,I,O,O,O,O,O,O,O,O,O,O,O,O,O,O,O,O,O,O,O,O,O,O,O,O,O,O,O,O,O,O,O,O,O,O,O,O,O,O,O,O,O,O,O,O,O,O,O,O,O,O,O,O,O,O,O,O,O,O,O,O,O,O,O,O,O,O] HT_.out ?_
              refine pu_ 16 85 #[I,I,I,I,I,I,I,I,I,I,I,I,I,I,I,I,I,O,O,O,O,O,O,O,O,O,O,O,O,O,O,O,O,O,O,O,O,O,O,O,O,O,O,O,O,O,O,O,O,O,O,O,O,O,O,O,O,O,O,O,O,O,O,O,O,O,O,O,O,O,O,O,O,O,O,O,O,O,O,O,O,O] HT_.out ?_
              refine pu_ 18 87 #[I,I,I,I,I,I,I,I,I,I,I,I,I,I,I,I,I,O,I,O,O,O,O,O,O,O,O,O,O,O,O,O,O,O,O,O,O,O,O,O,O,O,O,O,O,O,O,O,O,O,O,O,O,O,O,O,O,O,O,O,O,O,O,O,O,O,O,O,O,O,O,O,O,O,O,O,O,O,O,O,O,O] HT_.out ?_
              refine tk8_ 17 86 #[I,I,I,I,I,I,I,I,I,I,I,I,I,I,I,I,I,I,I,O,O,O,O,O,O,O,O,O,O,O,O,O,O,O,O,O,O,O,O,O,O,O,O,O,O,O,O,O,O,O,O,O,O,O,O,O,O,O,O,O,O,O,O,O,O,O,O,O,O,O,O,O,O,O,O,O,O,O,O,O,O,O] HT_.out HW_.out hHeld ?_
              refine tk8_ 19 88 #[I,I,I,I,I,I,I,I,I,I,I,I,I,I,I,I,I,I,I,I,O,O,O,O,O,O,O,O,O,O,O,O,O,O,O,O,O,O,O,O,O,O,O,O,O,O,O,O,O,O,O,O,O,O,O,O,O,O,O,O,O,O,O,O,O,O,O,O,O,O,O,O,O,O,O,O,O,O,O,O,O,O] HT_.out HW_.out hHeld ?_
              refine o1_ 20 89 #[I,I,I,I,I,I,I,I,I,I,I,I,I,I,I,I,I,I,I,I,I,O,O,O,O,O,O,O,O,O,O,O,O,O,O,O,O,O,O,O,O,O,O,O,O,O,O,O,O,O,O,O,O,O,O,O,O,O,O,O,O,O,O,O,O,O,O,O,O,O,O,O,O,O,O,O,O,O,O,O,O,O] HT_.out (fun K hK=>?_)
              refine gs_ Try.func34 #[.slice Ao53 t729.length co53,.agg #[.int .i64 t732,.int .i64 t733]] ?_
              with_reducible refine (Y16.calls kj2 _ _ t729 t732 t733 t766 t769 _ ?s1 ?s2 A23.out).mono ?_
              (case s1=>repeat (first | exact (Kd.R_reads' HO731.out).2.2 | (with_reducible refine Kd.C_alloc ?_ _) | (with_reducible refine Kd.C_drewN ?_ _) | (with_reducible refine Kd.C_drew ?_)))
              (case s2=>exact (Kd.R_reads' HO731.out).2.1)
              rintro e w85 ⟨v767,rfl,ho0,hb⟩
              refine ⟨_,rfl,?_⟩
              have n0_:=aM (Kd.R_elder' (z0_ HO717.out) (Kd.R_base ho0) hb)
              have n1_:=aM (Kd.R_elder' (z0_ HO719.out) (Kd.R_base ho0) hb)
              have n2_:=aM (Kd.R_elder' (z0_ HO722.out) (Kd.R_base ho0) hb)
              have n3_:=aM (Kd.R_elder' (z0_ HO726.out) (Kd.R_base ho0) hb)
              have n4_:=aM (Kd.R_elder' (z0_ HO728.out) (Kd.R_base ho0) hb)
              have n5_:=aM (Kd.R_elder' (z0_ HO731.out) (Kd.R_base ho0) hb)
              have n6_:=aM (Kd.R_elder' (z0_ HO737.out) (Kd.R_base ho0) hb)
              have n7_:=aM (Kd.R_elder' (z0_ HO743.out) (Kd.R_base ho0) hb)
              have n8_:=aM (Kd.R_elder' (z0_ HO746.out) (Kd.R_base ho0) hb)
              have n9_:=aM (Kd.R_elder' (z0_ HO752.out) (Kd.R_base ho0) hb)
              have n10_:=aM (Kd.R_elder' (z0_ HO757.out) (Kd.R_base ho0) hb)
              have n11_:=aM (Kd.R_elder' (z0_ HO762.out) (Kd.R_base ho0) hb)
              have n12_:=aM (Kd.R_lower (Kd.R_newB (Kd.R_newB (Kd.R_new' (Kd.R_new' (Kd.R_new' (Kd.R_new' (Kd.R_new' (Kd.R_new' (Kd.R_new' (Kd.R_new' (Kd.R_new' (Kd.R_new' (Kd.R_new' (Kd.R_new' ho0 (Kd.R_lt (z0_ HO717.out))) (Kd.R_lt (z0_ HO719.out))) (Kd.R_lt (z0_ HO722.out))) (Kd.R_lt (z0_ HO726.out))) (Kd.R_lt (z0_ HO728.out))) (Kd.R_lt (z0_ HO731.out))) (Kd.R_lt (z0_ HO737.out))) (Kd.R_lt (z0_ HO743.out))) (Kd.R_lt (z0_ HO746.out))) (Kd.R_lt (z0_ HO752.out))) (Kd.R_lt (z0_ HO757.out))) (Kd.R_lt (z0_ HO762.out))) (g:=gb734) (o:=.cells #[.int .i64 t732,.int .i64 t733] 49 (0,0)) (z2_ BK734.out)) (g:=gb749) (o:=.cells #[.int .i64 t747,.int .i64 t748] 49 (0,0)) (z2_ BK749.out)) (below_size (z9_ HB.out GE734.out GE739.out GE749.out GE759.out)))
              have n13_:=aM (blkB_ BK734.out hb)
              have n14_:=aM (blkB_ BK739.out hb)
              have n15_:=aM (blkB_ BK749.out hb)
              have n16_:=aM (blkB_ BK759.out hb)
              have n17_:=aM (below_step (z9_ HB.out GE734.out GE739.out GE749.out GE759.out) hb)
              clear HO717
              clear HO719
              clear HO722
              clear HO726
              clear HO728
              clear HO731
              clear HO737
              clear HO743
              clear HO746
              clear HO752
              clear HO757
              clear HO762
              clear BK734
              clear BK739
              clear BK749
              clear BK759
              clear HB
              have HO717:=n0_
              have HO719:=n1_
              have HO722:=n2_
              have HO726:=n3_
              have HO728:=n4_
              have HO731:=n5_
              have HO737:=n6_
              have HO743:=n7_
              have HO746:=n8_
              have HO752:=n9_
              have HO757:=n10_
              have HO762:=n11_
              have HO768:=n12_
              have BK734:=n13_
              have BK739:=n14_
              have BK749:=n15_
              have BK759:=n16_
              have HB:=n17_
              clear n0_ n1_ n2_ n3_ n4_ n5_ n6_ n7_ n8_ n9_ n10_ n11_ n12_ n13_ n14_ n15_ n16_ n17_
              (try clear hb)
              (try clear hb2)
              (try clear hk)
              (try clear hi)
              (try clear ho0)
              refine hK.out _ _ (cj2_ BK739.out (cj2_ BK734.out (cj2_ BK749.out (cc2_ BK759.out)))) (fun hHeld=>?_)
              clear hK K
              refine nm_ 89 ?_
              refine pu_ 21 90 #[I,I,I,I,I,I,I,I,I,I,I,I,I,I,I,I,I,I,I,I,I,I,O,O,O,O,O,O,O,O,O,O,O,O,O,O,O,O,O,O,O,O,O,O,O,O,O,O,O,O,O,O,O,O,O,O,O,O,O,O,O,O,O,O,O,O,O,O,O,O,O,O,O,O,O,O,O,O,O,O,O,O] HT_.out ?_
              refine pu_ 22 91 #[I,I,I,I,I,I,I,I,I,I,I,I,I,I,I,I,I,I,I,I,I,I,I,O,O,O,O,O,O,O,O,O,O,O,O,O,O,O,O,O,O,O,O,O,O,O,O,O,O,O,O,O,O,O,O,O,O,O,O,O,O,O,O,O,O,O,O,O,O,O,O,O,O,O,O,O,O,O,O,O,O,O] HT_.out ?_
              refine pu_ 23 92 #[I,I,I,I,I,I,I,I,I,I,I,I,I,I,I,I,I,I,I,I,I,I,I,I,O,O,O,O,O,O,O,O,O,O,O,O,O,O,O,O,O,O,O,O,O,O,O,O,O,O,O,O,O,O,O,O,O,O,O,O,O,O,O,O,O,O,O,O,O,O,O,O,O,O,O,O,O,O,O,O,O,O] HT_.out ?_
              refine pu_ 24 93 #[I,I,I,I,I,I,I,I,I,I,I,I,I,I,I,I,I,I,I,I,I,I,I,I,I,O,O,O,O,O,O,O,O,O,O,O,O,O,O,O,O,O,O,O,O,O,O,O,O,O,O,O,O,O,O,O,O,O,O,O,O,O,O,O,O,O,O,O,O,O,O,O,O,O,O,O,O,O,O,O,O,O] HT_.out ?_
              refine pu_ 25 94 #[I,I,I,I,I,I,I,I,I,I,I,I,I,I,I,I,I,I,I,I,I,I,I,I,I,I,O,O,O,O,O,O,O,O,O,O,O,O,O,O,O,O,O,O,O,O,O,O,O,O,O,O,O,O,O,O,O,O,O,O,O,O,O,O,O,O,O,O,O,O,O,O,O,O,O,O,O,O,O,O,O,O] HT_.out ?_
              refine pu_ 27 96 #[I,I,I,I,I,I,I,I,I,I,I,I,I,I,I,I,I,I,I,I,I,I,I,I,I,I,O,I,O,O,O,O,O,O,O,O,O,O,O,O,O,O,O,O,O,O,O,O,O,O,O,O,O,O,O,O,O,O,O,O,O,O,O,O,O,O,O,O,O,O,O,O,O,O,O,O,O,O,O,O,O,O] HT_.out ?_
              refine tk8_ 26 95 #[I,I,I,I,I,I,I,I,I,I,I,I,I,I,I,I,I,I,I,I,I,I,I,I,I,I,I,I,O,O,O,O,O,O,O,O,O,O,O,O,O,O,O,O,O,O,O,O,O,O,O,O,O,O,O,O,O,O,O,O,O,O,O,O,O,O,O,O,O,O,O,O,O,O,O,O,O,O,O,O,O,O] HT_.out HW_.out hHeld ?_
              refine tk8_ 28 97 #[I,I,I,I,I,I,I,I,I,I,I,I,I,I,I,I,I,I,I,I,I,I,I,I,I,I,I,I,I,O,O,O,O,O,O,O,O,O,O,O,O,O,O,O,O,O,O,O,O,O,O,O,O,O,O,O,O,O,O,O,O,O,O,O,O,O,O,O,O,O,O,O,O,O,O,O,O,O,O,O,O,O] HT_.out HW_.out hHeld ?_
              refine o1_ 29 98 #[I,I,I,I,I,I,I,I,I,I,I,I,I,I,I,I,I,I,I,I,I,I,I,I,I,I,I,I,I,I,O,O,O,O,O,O,O,O,O,O,O,O,O,O,O,O,O,O,O,O,O,O,O,O,O,O,O,O,O,O,O,O,O,O,O,O,O,O,O,O,O,O,O,O,O,O,O,O,O,O,O,O] HT_.out (fun K hK=>?_)
              refine gs_ Try.func34 #[.slice Ao53 t729.length co53,.agg #[.int .i64 t732,.int .i64 t733]] ?_
              with_reducible refine (Y16.calls kj2 _ _ t729 t732 t733 t770 t773 _ ?s1 ?s2 A25.out).mono ?_
              (case s1=>repeat (first | exact (Kd.R_reads' HO731.out).2.2 | (with_reducible refine Kd.C_alloc ?_ _) | (with_reducible refine Kd.C_drewN ?_ _) | (with_reducible refine Kd.C_drew ?_)))
              (case s2=>exact (Kd.R_reads' HO731.out).2.1)
              rintro e w86 ⟨v771,rfl,ho0,hb⟩
              refine ⟨_,rfl,?_⟩
              have n0_:=aM (Kd.R_elder' (z0_ HO717.out) (Kd.R_base ho0) hb)
              have n1_:=aM (Kd.R_elder' (z0_ HO719.out) (Kd.R_base ho0) hb)
              have n2_:=aM (Kd.R_elder' (z0_ HO722.out) (Kd.R_base ho0) hb)
              have n3_:=aM (Kd.R_elder' (z0_ HO726.out) (Kd.R_base ho0) hb)
              have n4_:=aM (Kd.R_elder' (z0_ HO728.out) (Kd.R_base ho0) hb)
              have n5_:=aM (Kd.R_elder' (z0_ HO731.out) (Kd.R_base ho0) hb)
              have n6_:=aM (Kd.R_elder' (z0_ HO737.out) (Kd.R_base ho0) hb)
              have n7_:=aM (Kd.R_elder' (z0_ HO743.out) (Kd.R_base ho0) hb)
              have n8_:=aM (Kd.R_elder' (z0_ HO746.out) (Kd.R_base ho0) hb)
              have n9_:=aM (Kd.R_elder' (z0_ HO752.out) (Kd.R_base ho0) hb)
              have n10_:=aM (Kd.R_elder' (z0_ HO757.out) (Kd.R_base ho0) hb)
              have n11_:=aM (Kd.R_elder' (z0_ HO762.out) (Kd.R_base ho0) hb)
              have n12_:=aM (Kd.R_elder' (z0_ HO768.out) (Kd.R_base ho0) hb)
              have n13_:=aM (Kd.R_lower (Kd.R_newB (Kd.R_newB (Kd.R_new' (Kd.R_new' (Kd.R_new' (Kd.R_new' (Kd.R_new' (Kd.R_new' (Kd.R_new' (Kd.R_new' (Kd.R_new' (Kd.R_new' (Kd.R_new' (Kd.R_new' (Kd.R_new' ho0 (Kd.R_lt (z0_ HO717.out))) (Kd.R_lt (z0_ HO719.out))) (Kd.R_lt (z0_ HO722.out))) (Kd.R_lt (z0_ HO726.out))) (Kd.R_lt (z0_ HO728.out))) (Kd.R_lt (z0_ HO731.out))) (Kd.R_lt (z0_ HO737.out))) (Kd.R_lt (z0_ HO743.out))) (Kd.R_lt (z0_ HO746.out))) (Kd.R_lt (z0_ HO752.out))) (Kd.R_lt (z0_ HO757.out))) (Kd.R_lt (z0_ HO762.out))) (Kd.R_lt (z0_ HO768.out))) (g:=gb734) (o:=.cells #[.int .i64 t732,.int .i64 t733] 49 (0,0)) (z2_ BK734.out)) (g:=gb749) (o:=.cells #[.int .i64 t747,.int .i64 t748] 49 (0,0)) (z2_ BK749.out)) (below_size (z9_ HB.out GE734.out GE739.out GE749.out GE759.out)))
              have n14_:=aM (blkB_ BK734.out hb)
              have n15_:=aM (blkB_ BK739.out hb)
              have n16_:=aM (blkB_ BK749.out hb)
              have n17_:=aM (blkB_ BK759.out hb)
              have n18_:=aM (below_step (z9_ HB.out GE734.out GE739.out GE749.out GE759.out) hb)
              clear HO717
              clear HO719
              clear HO722
              clear HO726
              clear HO728
              clear HO731
              clear HO737
              clear HO743
              clear HO746
              clear HO752
              clear HO757
              clear HO762
              clear HO768
              clear BK734
              clear BK739
              clear BK749
              clear BK759
              clear HB
              have HO717:=n0_
              have HO719:=n1_
              have HO722:=n2_
              have HO726:=n3_
              have HO728:=n4_
              have HO731:=n5_
              have HO737:=n6_
              have HO743:=n7_
              have HO746:=n8_
              have HO752:=n9_
              have HO757:=n10_
              have HO762:=n11_
              have HO768:=n12_
              have HO772:=n13_
              have BK734:=n14_
              have BK739:=n15_
              have BK749:=n16_
              have BK759:=n17_
              have HB:=n18_
              clear n0_ n1_ n2_ n3_ n4_ n5_ n6_ n7_ n8_ n9_ n10_ n11_ n12_ n13_ n14_ n15_ n16_ n17_ n18_
              (try clear hb)
              (try clear hb2)
              (try clear hk)
              (try clear hi)
              (try clear ho0)
              obtain ⟨Ao87,co87,eo87⟩:=Kd.R_slice HO772.out
              (first | subst eo87 | (injection eo87 with f1_ f2_ f3_;have f4_:=f1_.symm;have f5_:=f3_.symm;clear f1_ f2_ f3_;subst f4_;subst f5_))
              refine hK.out _ _ (cj2_ BK739.out (cj2_ BK734.out (cj2_ BK749.out (cc2_ BK759.out)))) (fun hHeld=>?_)
              clear hK K
              refine nm_ 98 ?_
              refine pu_ 30 99 #[I,I,I,I,I,I,I,I,I,I,I,I,I,I,I,I,I,I,I,I,I,I,I,I,I,I,I,I,I,I,I,O,O,O,O,O,O,O,O,O,O,O,O,O,O,O,O,O,O,O,O,O,O,O,O,O,O,O,O,O,O,O,O,O,O,O,O,O,O,O,O,O,O,O,O,O,O,O,O,O,O,O] HT_.out ?_
              refine o1_ 31 100 #[I,I,I,I,I,I,I,I,I,I,I,I,I,I,I,I,I,I,I,I,I,I,I,I,I,I,I,I,I,I,I,I,O,O,O,O,O,O,O,O,O,O,O,O,O,O,O,O,O,O,O,O,O,O,O,O,O,O,O,O,O,O,O,O,O,O,O,O,O,O,O,O,O,O,O,O,O,O,O,O,O,O] HT_.out (fun K hK=>?_)
              refine gs_ Try.func30 #[.slice Ao56 t735.length co56,.slice Ao87 t770.length co87] ?_
              with_reducible refine (Y6.calls kj2 _ _ t735 _ _ t770 true _ ?s1 ?s2 ?s3 ?s4 A26.out).mono ?_
              (case s1=>repeat (first | exact (Kd.R_reads' HO737.out).2.2 | (with_reducible refine Kd.C_alloc ?_ _) | (with_reducible refine Kd.C_drewN ?_ _) | (with_reducible refine Kd.C_drew ?_)))
              (case s2=>exact (Kd.R_reads' HO737.out).2.1)
              (case s3=>repeat (first | exact (Kd.R_reads' HO772.out).2.2 | (with_reducible refine Kd.C_alloc ?_ _) | (with_reducible refine Kd.C_drewN ?_ _) | (with_reducible refine Kd.C_drew ?_)))
              (case s4=>exact (Kd.R_reads' HO772.out).2.1)
              rintro e w' ⟨rfl,⟨nd,rfl⟩⟩
              refine ⟨_,rfl,?_⟩
              obtain ⟨Ao88,co88,eo88⟩:=Kd.R_slice HO743.out
              (first | subst eo88 | (injection eo88 with f1_ f2_ f3_;have f4_:=f1_.symm;have f5_:=f3_.symm;clear f1_ f2_ f3_;subst f4_;subst f5_))
              refine hK.out _ _ (cj2_ BK739.out (cj2_ BK734.out (cj2_ BK749.out (cc2_ BK759.out)))) (fun hHeld=>?_)
              clear hK K
              refine nm_ 100 ?_
              refine pu_ 32 101 #[I,I,I,I,I,I,I,I,I,I,I,I,I,I,I,I,I,I,I,I,I,I,I,I,I,I,I,I,I,I,I,I,I,O,O,O,O,O,O,O,O,O,O,O,O,O,O,O,O,O,O,O,O,O,O,O,O,O,O,O,O,O,O,O,O,O,O,O,O,O,O,O,O,O,O,O,O,O,O,O,O,O] HT_.out ?_
              refine pu_ 33 102 #[I,I,I,I,I,I,I,I,I,I,I,I,I,I,I,I,I,I,I,I,I,I,I,I,I,I,I,I,I,I,I,I,I,I,O,O,O,O,O,O,O,O,O,O,O,O,O,O,O,O,O,O,O,O,O,O,O,O,O,O,O,O,O,O,O,O,O,O,O,O,O,O,O,O,O,O,O,O,O,O,O,O] HT_.out ?_
              refine pu_ 34 103 #[I,I,I,I,I,I,I,I,I,I,I,I,I,I,I,I,I,I,I,I,I,I,I,I,I,I,I,I,I,I,I,I,I,I,I,O,O,O,O,O,O,O,O,O,O,O,O,O,O,O,O,O,O,O,O,O,O,O,O,O,O,O,O,O,O,O,O,O,O,O,O,O,O,O,O,O,O,O,O,O,O,O] HT_.out ?_
              refine pu_ 35 104 #[I,I,I,I,I,I,I,I,I,I,I,I,I,I,I,I,I,I,I,I,I,I,I,I,I,I,I,I,I,I,I,I,I,I,I,I,O,O,O,O,O,O,O,O,O,O,O,O,O,O,O,O,O,O,O,O,O,O,O,O,O,O,O,O,O,O,O,O,O,O,O,O,O,O,O,O,O,O,O,O,O,O] HT_.out ?_
              refine pu_ 36 105 #[I,I,I,I,I,I,I,I,I,I,I,I,I,I,I,I,I,I,I,I,I,I,I,I,I,I,I,I,I,I,I,I,I,I,I,I,I,O,O,O,O,O,O,O,O,O,O,O,O,O,O,O,O,O,O,O,O,O,O,O,O,O,O,O,O,O,O,O,O,O,O,O,O,O,O,O,O,O,O,O,O,O] HT_.out ?_
              refine pu_ 38 107 #[I,I,I,I,I,I,I,I,I,I,I,I,I,I,I,I,I,I,I,I,I,I,I,I,I,I,I,I,I,I,I,I,I,I,I,I,I,O,I,O,O,O,O,O,O,O,O,O,O,O,O,O,O,O,O,O,O,O,O,O,O,O,O,O,O,O,O,O,O,O,O,O,O,O,O,O,O,O,O,O,O,O] HT_.out ?_
              refine pu_ 39 108 #[I,I,I,I,I,I,I,I,I,I,I,I,I,I,I,I,I,I,I,I,I,I,I,I,I,I,I,I,I,I,I,I,I,I,I,I,I,O,I,I,O,O,O,O,O,O,O,O,O,O,O,O,O,O,O,O,O,O,O,O,O,O,O,O,O,O,O,O,O,O,O,O,O,O,O,O,O,O,O,O,O,O] HT_.out ?_
              refine o1_ 37 106 #[I,I,I,I,I,I,I,I,I,I,I,I,I,I,I,I,I,I,I,I,I,I,I,I,I,I,I,I,I,I,I,I,I,I,I,I,I,I,I,I,O,O,O,O,O,O,O,O,O,O,O,O,O,O,O,O,O,O,O,O,O,O,O,O,O,O,O,O,O,O,O,O,O,O,O,O,O,O,O,O,O,O] HT_.out (fun K hK=>?_)
              refine gs_ Try.func35 #[.slice Ao88 t740.length co88,.int .i64 t741] ?_
              with_reducible refine (Y33.calls kj2 _ _ t740 t741 t775 _ ?s1 ?s2 A28.out).mono ?_
              (case s1=>repeat (first | exact (Kd.R_reads' HO743.out).2.2 | (with_reducible refine Kd.C_alloc ?_ _) | (with_reducible refine Kd.C_drewN ?_ _) | (with_reducible refine Kd.C_drew ?_)))
              (case s2=>exact (Kd.R_reads' HO743.out).2.1)
              rintro e w89 ⟨rfl,hb⟩
              refine ⟨_,rfl,?_⟩
              have n0_:=aM (Kd.R_below (z0_ HO717.out) hb)
              have n1_:=aM (Kd.R_below (z0_ HO719.out) hb)
              have n2_:=aM (Kd.R_below (z0_ HO722.out) hb)
              have n3_:=aM (Kd.R_below (z0_ HO726.out) hb)
              have n4_:=aM (Kd.R_below (z0_ HO728.out) hb)
              have n5_:=aM (Kd.R_below (z0_ HO731.out) hb)
              have n6_:=aM (Kd.R_below (z0_ HO737.out) hb)
              have n7_:=aM (Kd.R_below (z0_ HO743.out) hb)
              have n8_:=aM (Kd.R_below (z0_ HO746.out) hb)
              have n9_:=aM (Kd.R_below (z0_ HO752.out) hb)
              have n10_:=aM (Kd.R_below (z0_ HO757.out) hb)
              have n11_:=aM (Kd.R_below (z0_ HO762.out) hb)
              have n12_:=aM (Kd.R_below (z0_ HO768.out) hb)
              have n13_:=aM (Kd.R_below (z0_ HO772.out) hb)
              have n14_:=aM (blkB_ BK734.out hb)
              have n15_:=aM (blkB_ BK739.out hb)
              have n16_:=aM (blkB_ BK749.out hb)
              have n17_:=aM (blkB_ BK759.out hb)
              have n18_:=aM (below_step (z9_ HB.out GE734.out GE739.out GE749.out GE759.out) hb)
              clear HO717
              clear HO719
              clear HO722
              clear HO726
              clear HO728
              clear HO731
              clear HO737
              clear HO743
              clear HO746
              clear HO752
              clear HO757
              clear HO762
              clear HO768
              clear HO772
              clear BK734
              clear BK739
              clear BK749
              clear BK759
              clear HB
              have HO717:=n0_
              have HO719:=n1_
              have HO722:=n2_
              have HO726:=n3_
              have HO728:=n4_
              have HO731:=n5_
              have HO737:=n6_
              have HO743:=n7_
              have HO746:=n8_
              have HO752:=n9_
              have HO757:=n10_
              have HO762:=n11_
              have HO768:=n12_
              have HO772:=n13_
              have BK734:=n14_
              have BK739:=n15_
              have BK749:=n16_
              have BK759:=n17_
              have HB:=n18_
              clear n0_ n1_ n2_ n3_ n4_ n5_ n6_ n7_ n8_ n9_ n10_ n11_ n12_ n13_ n14_ n15_ n16_ n17_ n18_
              (try clear hb)
              refine hK.out _ _ (cj2_ BK739.out (cj2_ BK734.out (cj2_ BK749.out (cc2_ BK759.out)))) (fun hHeld=>?_)
              clear hK K
              refine nm_ 106 ?_
              refine o1_ 40 109 #[I,I,I,I,I,I,I,I,I,I,I,I,I,I,I,I,I,I,I,I,I,I,I,I,I,I,I,I,I,I,I,I,I,I,I,I,I,I,I,I,I,O,O,O,O,O,O,O,O,O,O,O,O,O,O,O,O,O,O,O,O,O,O,O,O,O,O,O,O,O,O,O,O,O,O,O,O,O,O,O,O,O] HT_.out (fun K hK=>?_)
              refine gs_ Try.func36 #[.slice Ao88 t740.length co88,.int .i64 t741] ?_
              with_reducible refine (Y40.calls kj2 _ _ t740 t741 t776 _ ?s1 ?s2 A29.out).mono ?_
              (case s1=>repeat (first | exact (Kd.R_reads' HO743.out).2.2 | (with_reducible refine Kd.C_alloc ?_ _) | (with_reducible refine Kd.C_drewN ?_ _) | (with_reducible refine Kd.C_drew ?_)))
              (case s2=>exact (Kd.R_reads' HO743.out).2.1)
              rintro e w90 ⟨rfl,hb⟩
              refine ⟨_,rfl,?_⟩
              have n0_:=aM (Kd.R_below (z0_ HO717.out) hb)
              have n1_:=aM (Kd.R_below (z0_ HO719.out) hb)
              have n2_:=aM (Kd.R_below (z0_ HO722.out) hb)
              have n3_:=aM (Kd.R_below (z0_ HO726.out) hb)
              have n4_:=aM (Kd.R_below (z0_ HO728.out) hb)
              have n5_:=aM (Kd.R_below (z0_ HO731.out) hb)
              have n6_:=aM (Kd.R_below (z0_ HO737.out) hb)
              have n7_:=aM (Kd.R_below (z0_ HO743.out) hb)
              have n8_:=aM (Kd.R_below (z0_ HO746.out) hb)
              have n9_:=aM (Kd.R_below (z0_ HO752.out) hb)
              have n10_:=aM (Kd.R_below (z0_ HO757.out) hb)
              have n11_:=aM (Kd.R_below (z0_ HO762.out) hb)
              have n12_:=aM (Kd.R_below (z0_ HO768.out) hb)
              have n13_:=aM (Kd.R_below (z0_ HO772.out) hb)
              have n14_:=aM (blkB_ BK734.out hb)
              have n15_:=aM (blkB_ BK739.out hb)
              have n16_:=aM (blkB_ BK749.out hb)
              have n17_:=aM (blkB_ BK759.out hb)
              have n18_:=aM (below_step (z9_ HB.out GE734.out GE739.out GE749.out GE759.out) hb)
              clear HO717
              clear HO719
              clear HO722
              clear HO726
              clear HO728
              clear HO731
              clear HO737
              clear HO743
              clear HO746
              clear HO752
              clear HO757
              clear HO762
              clear HO768
              clear HO772
              clear BK734
              clear BK739
              clear BK749
              clear BK759
              clear HB
              have HO717:=n0_
              have HO719:=n1_
              have HO722:=n2_
              have HO726:=n3_
              have HO728:=n4_
              have HO731:=n5_
              have HO737:=n6_
              have HO743:=n7_
              have HO746:=n8_
              have HO752:=n9_
              have HO757:=n10_
              have HO762:=n11_
              have HO768:=n12_
              have HO772:=n13_
              have BK734:=n14_
              have BK739:=n15_
              have BK749:=n16_
              have BK759:=n17_
              have HB:=n18_
              clear n0_ n1_ n2_ n3_ n4_ n5_ n6_ n7_ n8_ n9_ n10_ n11_ n12_ n13_ n14_ n15_ n16_ n17_ n18_
              (try clear hb)
              obtain ⟨Ao91,co91,eo91⟩:=Kd.R_slice HO746.out
              (first | subst eo91 | (injection eo91 with f1_ f2_ f3_;have f4_:=f1_.symm;have f5_:=f3_.symm;clear f1_ f2_ f3_;subst f4_;subst f5_))
              refine hK.out _ _ (cj2_ BK739.out (cj2_ BK734.out (cj2_ BK749.out (cc2_ BK759.out)))) (fun hHeld=>?_)
              clear hK K
              refine nm_ 109 ?_
              refine pu_ 41 110 #[I,I,I,I,I,I,I,I,I,I,I,I,I,I,I,I,I,I,I,I,I,I,I,I,I,I,I,I,I,I,I,I,I,I,I,I,I,I,I,I,I,I,O,O,O,O,O,O,O,O,O,O,O,O,O,O,O,O,O,O,O,O,O,O,O,O,O,O,O,O,O,O,O,O,O,O,O,O,O,O,O,O] HT_.out ?_
              refine pu_ 42 111 #[I,I,I,I,I,I,I,I,I,I,I,I,I,I,I,I,I,I,I,I,I,I,I,I,I,I,I,I,I,I,I,I,I,I,I,I,I,I,I,I,I,I,I,O,O,O,O,O,O,O,O,O,O,O,O,O,O,O,O,O,O,O,O,O,O,O,O,O,O,O,O,O,O,O,O,O,O,O,O,O,O,O] HT_.out ?_
              refine pu_ 43 112 #[I,I,I,I,I,I,I,I,I,I,I,I,I,I,I,I,I,I,I,I,I,I,I,I,I,I,I,I,I,I,I,I,I,I,I,I,I,I,I,I,I,I,I,I,O,O,O,O,O,O,O,O,O,O,O,O,O,O,O,O,O,O,O,O,O,O,O,O,O,O,O,O,O,O,O,O,O,O,O,O,O,O] HT_.out ?_
              refine pu_ 44 113 #[I,I,I,I,I,I,I,I,I,I,I,I,I,I,I,I,I,I,I,I,I,I,I,I,I,I,I,I,I,I,I,I,I,I,I,I,I,I,I,I,I,I,I,I,I,O,O,O,O,O,O,O,O,O,O,O,O,O,O,O,O,O,O,O,O,O,O,O,O,O,O,O,O,O,O,O,O,O,O,O,O,O] HT_.out ?_
              refine pu_ 47 116 #[I,I,I,I,I,I,I,I,I,I,I,I,I,I,I,I,I,I,I,I,I,I,I,I,I,I,I,I,I,I,I,I,I,I,I,I,I,I,I,I,I,I,I,I,I,O,O,I,O,O,O,O,O,O,O,O,O,O,O,O,O,O,O,O,O,O,O,O,O,O,O,O,O,O,O,O,O,O,O,O,O,O] HT_.out ?_
              refine tk8_ 45 114 #[I,I,I,I,I,I,I,I,I,I,I,I,I,I,I,I,I,I,I,I,I,I,I,I,I,I,I,I,I,I,I,I,I,I,I,I,I,I,I,I,I,I,I,I,I,I,O,I,O,O,O,O,O,O,O,O,O,O,O,O,O,O,O,O,O,O,O,O,O,O,O,O,O,O,O,O,O,O,O,O,O,O] HT_.out HW_.out hHeld ?_
              refine tk8_ 48 117 #[I,I,I,I,I,I,I,I,I,I,I,I,I,I,I,I,I,I,I,I,I,I,I,I,I,I,I,I,I,I,I,I,I,I,I,I,I,I,I,I,I,I,I,I,I,I,O,I,I,O,O,O,O,O,O,O,O,O,O,O,O,O,O,O,O,O,O,O,O,O,O,O,O,O,O,O,O,O,O,O,O,O] HT_.out HW_.out hHeld ?_
              refine o1_ 46 115 #[I,I,I,I,I,I,I,I,I,I,I,I,I,I,I,I,I,I,I,I,I,I,I,I,I,I,I,I,I,I,I,I,I,I,I,I,I,I,I,I,I,I,I,I,I,I,I,I,I,O,O,O,O,O,O,O,O,O,O,O,O,O,O,O,O,O,O,O,O,O,O,O,O,O,O,O,O,O,O,O,O,O] HT_.out (fun K hK=>?_)
              refine gs_ Try.func37 #[.slice Ao91 t744.length co91,.agg #[.int .i64 t747,.int .i64 t748]] ?_
              with_reducible refine (Y4.calls kj2 _ _ t744 t747 t748 t777 _ ?s1 ?s2 A31.out).mono ?_
              (case s1=>repeat (first | exact (Kd.R_reads' HO746.out).2.2 | (with_reducible refine Kd.C_alloc ?_ _) | (with_reducible refine Kd.C_drewN ?_ _) | (with_reducible refine Kd.C_drew ?_)))
              (case s2=>exact (Kd.R_reads' HO746.out).2.1)
              rintro e w92 ⟨rfl,hb⟩
              refine ⟨_,rfl,?_⟩
              have n0_:=aM (Kd.R_below (z0_ HO717.out) hb)
              have n1_:=aM (Kd.R_below (z0_ HO719.out) hb)
              have n2_:=aM (Kd.R_below (z0_ HO722.out) hb)
              have n3_:=aM (Kd.R_below (z0_ HO726.out) hb)
              have n4_:=aM (Kd.R_below (z0_ HO728.out) hb)
              have n5_:=aM (Kd.R_below (z0_ HO731.out) hb)
              have n6_:=aM (Kd.R_below (z0_ HO737.out) hb)
              have n7_:=aM (Kd.R_below (z0_ HO743.out) hb)
              have n8_:=aM (Kd.R_below (z0_ HO746.out) hb)
              have n9_:=aM (Kd.R_below (z0_ HO752.out) hb)
              have n10_:=aM (Kd.R_below (z0_ HO757.out) hb)
              have n11_:=aM (Kd.R_below (z0_ HO762.out) hb)
              have n12_:=aM (Kd.R_below (z0_ HO768.out) hb)
              have n13_:=aM (Kd.R_below (z0_ HO772.out) hb)
              have n14_:=aM (blkB_ BK734.out hb)
              have n15_:=aM (blkB_ BK739.out hb)
              have n16_:=aM (blkB_ BK749.out hb)
              have n17_:=aM (blkB_ BK759.out hb)
              have n18_:=aM (below_step (z9_ HB.out GE734.out GE739.out GE749.out GE759.out) hb)
              clear HO717
              clear HO719
              clear HO722
              clear HO726
              clear HO728
              clear HO731
              clear HO737
              clear HO743
              clear HO746
              clear HO752
              clear HO757
              clear HO762
              clear HO768
              clear HO772
              clear BK734
              clear BK739
              clear BK749
              clear BK759
              clear HB
              have HO717:=n0_
              have HO719:=n1_
              have HO722:=n2_
              have HO726:=n3_
              have HO728:=n4_
              have HO731:=n5_
              have HO737:=n6_
              have HO743:=n7_
              have HO746:=n8_
              have HO752:=n9_
              have HO757:=n10_
              have HO762:=n11_
              have HO768:=n12_
              have HO772:=n13_
              have BK734:=n14_
              have BK739:=n15_
              have BK749:=n16_
              have BK759:=n17_
              have HB:=n18_
              clear n0_ n1_ n2_ n3_ n4_ n5_ n6_ n7_ n8_ n9_ n10_ n11_ n12_ n13_ n14_ n15_ n16_ n17_ n18_
              (try clear hb)
              refine hK.out _ _ (cj2_ BK739.out (cj2_ BK734.out (cj2_ BK749.out (cc2_ BK759.out)))) (fun hHeld=>?_)
              clear hK K
              refine nm_ 115 ?_
              refine o1_ 49 118 #[I,I,I,I,I,I,I,I,I,I,I,I,I,I,I,I,I,I,I,I,I,I,I,I,I,I,I,I,I,I,I,I,I,I,I,I,I,I,I,I,I,I,I,I,I,I,I,I,I,I,O,O,O,O,O,O,O,O,O,O,O,O,O,O,O,O,O,O,O,O,O,O,O,O,O,O,O,O,O,O,O,O] HT_.out (fun K hK=>?_)
              refine gs_ Try.func38 #[.slice Ao91 t744.length co91,.agg #[.int .i64 t747,.int .i64 t748]] ?_
              with_reducible refine (Y8.calls kj2 _ _ t744 t747 t748 t778 _ ?s1 ?s2 A32.out).mono ?_
              (case s1=>repeat (first | exact (Kd.R_reads' HO746.out).2.2 | (with_reducible refine Kd.C_alloc ?_ _) | (with_reducible refine Kd.C_drewN ?_ _) | (with_reducible refine Kd.C_drew ?_)))
              (case s2=>exact (Kd.R_reads' HO746.out).2.1)
              rintro e w93 ⟨rfl,hb⟩
              refine ⟨_,rfl,?_⟩
              have n0_:=aM (Kd.R_below (z0_ HO717.out) hb)
              have n1_:=aM (Kd.R_below (z0_ HO719.out) hb)
              have n2_:=aM (Kd.R_below (z0_ HO722.out) hb)
              have n3_:=aM (Kd.R_below (z0_ HO726.out) hb)
              have n4_:=aM (Kd.R_below (z0_ HO728.out) hb)
              have n5_:=aM (Kd.R_below (z0_ HO731.out) hb)
              have n6_:=aM (Kd.R_below (z0_ HO737.out) hb)
              have n7_:=aM (Kd.R_below (z0_ HO743.out) hb)
              have n8_:=aM (Kd.R_below (z0_ HO746.out) hb)
              have n9_:=aM (Kd.R_below (z0_ HO752.out) hb)
              have n10_:=aM (Kd.R_below (z0_ HO757.out) hb)
              have n11_:=aM (Kd.R_below (z0_ HO762.out) hb)
              have n12_:=aM (Kd.R_below (z0_ HO768.out) hb)
              have n13_:=aM (Kd.R_below (z0_ HO772.out) hb)
              have n14_:=aM (blkB_ BK734.out hb)
              have n15_:=aM (blkB_ BK739.out hb)
              have n16_:=aM (blkB_ BK749.out hb)
              have n17_:=aM (blkB_ BK759.out hb)
              have n18_:=aM (below_step (z9_ HB.out GE734.out GE739.out GE749.out GE759.out) hb)
              clear HO717
              clear HO719
              clear HO722
              clear HO726
              clear HO728
              clear HO731
              clear HO737
              clear HO743
              clear HO746
              clear HO752
              clear HO757
              clear HO762
              clear HO768
              clear HO772
              clear BK734
              clear BK739
              clear BK749
              clear BK759
              clear HB
              have HO717:=n0_
              have HO719:=n1_
              have HO722:=n2_
              have HO726:=n3_
              have HO728:=n4_
              have HO731:=n5_
              have HO737:=n6_
              have HO743:=n7_
              have HO746:=n8_
              have HO752:=n9_
              have HO757:=n10_
              have HO762:=n11_
              have HO768:=n12_
              have HO772:=n13_
              have BK734:=n14_
              have BK739:=n15_
              have BK749:=n16_
              have BK759:=n17_
              have HB:=n18_
              clear n0_ n1_ n2_ n3_ n4_ n5_ n6_ n7_ n8_ n9_ n10_ n11_ n12_ n13_ n14_ n15_ n16_ n17_ n18_
              (try clear hb)
              refine hK.out _ _ (cj2_ BK739.out (cj2_ BK734.out (cj2_ BK749.out (cc2_ BK759.out)))) (fun hHeld=>?_)
              clear hK K
              refine nm_ 118 ?_
              refine pu_ 50 119 #[I,I,I,I,I,I,I,I,I,I,I,I,I,I,I,I,I,I,I,I,I,I,I,I,I,I,I,I,I,I,I,I,I,I,I,I,I,I,I,I,I,I,I,I,I,I,I,I,I,I,I,O,O,O,O,O,O,O,O,O,O,O,O,O,O,O,O,O,O,O,O,O,O,O,O,O,O,O,O,O,O,O] HT_.out ?_
              refine pu_ 51 120 #[I,I,I,I,I,I,I,I,I,I,I,I,I,I,I,I,I,I,I,I,I,I,I,I,I,I,I,I,I,I,I,I,I,I,I,I,I,I,I,I,I,I,I,I,I,I,I,I,I,I,I,I,O,O,O,O,O,O,O,O,O,O,O,O,O,O,O,O,O,O,O,O,O,O,O,O,O,O,O,O,O,O] HT_.out ?_
              refine pu_ 52 121 #[I,I,I,I,I,I,I,I,I,I,I,I,I,I,I,I,I,I,I,I,I,I,I,I,I,I,I,I,I,I,I,I,I,I,I,I,I,I,I,I,I,I,I,I,I,I,I,I,I,I,I,I,I,O,O,O,O,O,O,O,O,O,O,O,O,O,O,O,O,O,O,O,O,O,O,O,O,O,O,O,O,O] HT_.out ?_
              refine pu_ 53 122 #[I,I,I,I,I,I,I,I,I,I,I,I,I,I,I,I,I,I,I,I,I,I,I,I,I,I,I,I,I,I,I,I,I,I,I,I,I,I,I,I,I,I,I,I,I,I,I,I,I,I,I,I,I,I,O,O,O,O,O,O,O,O,O,O,O,O,O,O,O,O,O,O,O,O,O,O,O,O,O,O,O,O] HT_.out ?_
              refine pu_ 54 123 #[I,I,I,I,I,I,I,I,I,I,I,I,I,I,I,I,I,I,I,I,I,I,I,I,I,I,I,I,I,I,I,I,I,I,I,I,I,I,I,I,I,I,I,I,I,I,I,I,I,I,I,I,I,I,I,O,O,O,O,O,O,O,O,O,O,O,O,O,O,O,O,O,O,O,O,O,O,O,O,O,O,O] HT_.out ?_
              refine o1_ 55 124 #[I,I,I,I,I,I,I,I,I,I,I,I,I,I,I,I,I,I,I,I,I,I,I,I,I,I,I,I,I,I,I,I,I,I,I,I,I,I,I,I,I,I,I,I,I,I,I,I,I,I,I,I,I,I,I,I,O,O,O,O,O,O,O,O,O,O,O,O,O,O,O,O,O,O,O,O,O,O,O,O,O,O] HT_.out (fun K hK=>?_)
              refine gs_ Try.func39 #[.slice Ao66 t750.length co66] ?_
              with_reducible refine (Y22.calls kj2 _ _ t750 t779 _ ?s1 ?s2 A34.out).mono ?_
              (case s1=>repeat (first | exact (Kd.R_reads' HO752.out).2.2 | (with_reducible refine Kd.C_alloc ?_ _) | (with_reducible refine Kd.C_drewN ?_ _) | (with_reducible refine Kd.C_drew ?_)))
              (case s2=>exact (Kd.R_reads' HO752.out).2.1)
              rintro e w94 ⟨rfl,hb⟩
              refine ⟨_,rfl,?_⟩
              have n0_:=aM (Kd.R_below (z0_ HO717.out) hb)
              have n1_:=aM (Kd.R_below (z0_ HO719.out) hb)
              have n2_:=aM (Kd.R_below (z0_ HO722.out) hb)
              have n3_:=aM (Kd.R_below (z0_ HO726.out) hb)
              have n4_:=aM (Kd.R_below (z0_ HO728.out) hb)
              have n5_:=aM (Kd.R_below (z0_ HO731.out) hb)
              have n6_:=aM (Kd.R_below (z0_ HO737.out) hb)
              have n7_:=aM (Kd.R_below (z0_ HO743.out) hb)
              have n8_:=aM (Kd.R_below (z0_ HO746.out) hb)
              have n9_:=aM (Kd.R_below (z0_ HO752.out) hb)
              have n10_:=aM (Kd.R_below (z0_ HO757.out) hb)
              have n11_:=aM (Kd.R_below (z0_ HO762.out) hb)
              have n12_:=aM (Kd.R_below (z0_ HO768.out) hb)
              have n13_:=aM (Kd.R_below (z0_ HO772.out) hb)
              have n14_:=aM (blkB_ BK734.out hb)
              have n15_:=aM (blkB_ BK739.out hb)
              have n16_:=aM (blkB_ BK749.out hb)
              have n17_:=aM (blkB_ BK759.out hb)
              have n18_:=aM (below_step (z9_ HB.out GE734.out GE739.out GE749.out GE759.out) hb)
              clear HO717
              clear HO719
              clear HO722
              clear HO726
              clear HO728
              clear HO731
              clear HO737
              clear HO743
              clear HO746
              clear HO752
              clear HO757
              clear HO762
              clear HO768
              clear HO772
              clear BK734
              clear BK739
              clear BK749
              clear BK759
              clear HB
              have HO717:=n0_
              have HO719:=n1_
              have HO722:=n2_
              have HO726:=n3_
              have HO728:=n4_
              have HO731:=n5_
              have HO737:=n6_
              have HO743:=n7_
              have HO746:=n8_
              have HO752:=n9_
              have HO757:=n10_
              have HO762:=n11_
              have HO768:=n12_
              have HO772:=n13_
              have BK734:=n14_
              have BK739:=n15_
              have BK749:=n16_
              have BK759:=n17_
              have HB:=n18_
              clear n0_ n1_ n2_ n3_ n4_ n5_ n6_ n7_ n8_ n9_ n10_ n11_ n12_ n13_ n14_ n15_ n16_ n17_ n18_
              (try clear hb)
              refine hK.out _ _ (cj2_ BK739.out (cj2_ BK734.out (cj2_ BK749.out (cc2_ BK759.out)))) (fun hHeld=>?_)
              clear hK K
              refine nm_ 124 ?_
              refine pu_ 56 125 #[I,I,I,I,I,I,I,I,I,I,I,I,I,I,I,I,I,I,I,I,I,I,I,I,I,I,I,I,I,I,I,I,I,I,I,I,I,I,I,I,I,I,I,I,I,I,I,I,I,I,I,I,I,I,I,I,I,O,O,O,O,O,O,O,O,O,O,O,O,O,O,O,O,O,O,O,O,O,O,O,O,O] HT_.out ?_
              refine pu_ 57 126 #[I,I,I,I,I,I,I,I,I,I,I,I,I,I,I,I,I,I,I,I,I,I,I,I,I,I,I,I,I,I,I,I,I,I,I,I,I,I,I,I,I,I,I,I,I,I,I,I,I,I,I,I,I,I,I,I,I,I,O,O,O,O,O,O,O,O,O,O,O,O,O,O,O,O,O,O,O,O,O,O,O,O] HT_.out ?_
              refine pu_ 58 127 #[I,I,I,I,I,I,I,I,I,I,I,I,I,I,I,I,I,I,I,I,I,I,I,I,I,I,I,I,I,I,I,I,I,I,I,I,I,I,I,I,I,I,I,I,I,I,I,I,I,I,I,I,I,I,I,I,I,I,I,O,O,O,O,O,O,O,O,O,O,O,O,O,O,O,O,O,O,O,O,O,O,O] HT_.out ?_
              refine pu_ 59 128 #[I,I,I,I,I,I,I,I,I,I,I,I,I,I,I,I,I,I,I,I,I,I,I,I,I,I,I,I,I,I,I,I,I,I,I,I,I,I,I,I,I,I,I,I,I,I,I,I,I,I,I,I,I,I,I,I,I,I,I,I,O,O,O,O,O,O,O,O,O,O,O,O,O,O,O,O,O,O,O,O,O,O] HT_.out ?_
              refine pu_ 61 130 #[I,I,I,I,I,I,I,I,I,I,I,I,I,I,I,I,I,I,I,I,I,I,I,I,I,I,I,I,I,I,I,I,I,I,I,I,I,I,I,I,I,I,I,I,I,I,I,I,I,I,I,I,I,I,I,I,I,I,I,I,O,I,O,O,O,O,O,O,O,O,O,O,O,O,O,O,O,O,O,O,O,O] HT_.out ?_
              refine tk8_ 60 129 #[I,I,I,I,I,I,I,I,I,I,I,I,I,I,I,I,I,I,I,I,I,I,I,I,I,I,I,I,I,I,I,I,I,I,I,I,I,I,I,I,I,I,I,I,I,I,I,I,I,I,I,I,I,I,I,I,I,I,I,I,I,I,O,O,O,O,O,O,O,O,O,O,O,O,O,O,O,O,O,O,O,O] HT_.out HW_.out hHeld ?_
              refine o1_ 62 131 #[I,I,I,I,I,I,I,I,I,I,I,I,I,I,I,I,I,I,I,I,I,I,I,I,I,I,I,I,I,I,I,I,I,I,I,I,I,I,I,I,I,I,I,I,I,I,I,I,I,I,I,I,I,I,I,I,I,I,I,I,I,I,I,O,O,O,O,O,O,O,O,O,O,O,O,O,O,O,O,O,O,O] HT_.out (fun K hK=>?_)
              refine gs_ Try.func40 #[.string t754] ?_
              with_reducible refine (Y11.calls kj2 t754 t780 t783 _ A36.out).mono ?_
              rintro e w95 ⟨v781,rfl,ho0,hb⟩
              refine ⟨_,rfl,?_⟩
              have n0_:=aM (Kd.R_elder' (z0_ HO717.out) (Kd.R_base ho0) hb)
              have n1_:=aM (Kd.R_elder' (z0_ HO719.out) (Kd.R_base ho0) hb)
              have n2_:=aM (Kd.R_elder' (z0_ HO722.out) (Kd.R_base ho0) hb)
              have n3_:=aM (Kd.R_elder' (z0_ HO726.out) (Kd.R_base ho0) hb)
              have n4_:=aM (Kd.R_elder' (z0_ HO728.out) (Kd.R_base ho0) hb)
              have n5_:=aM (Kd.R_elder' (z0_ HO731.out) (Kd.R_base ho0) hb)
              have n6_:=aM (Kd.R_elder' (z0_ HO737.out) (Kd.R_base ho0) hb)
              have n7_:=aM (Kd.R_elder' (z0_ HO743.out) (Kd.R_base ho0) hb)
              have n8_:=aM (Kd.R_elder' (z0_ HO746.out) (Kd.R_base ho0) hb)
              have n9_:=aM (Kd.R_elder' (z0_ HO752.out) (Kd.R_base ho0) hb)
              have n10_:=aM (Kd.R_elder' (z0_ HO757.out) (Kd.R_base ho0) hb)
              have n11_:=aM (Kd.R_elder' (z0_ HO762.out) (Kd.R_base ho0) hb)
              have n12_:=aM (Kd.R_elder' (z0_ HO768.out) (Kd.R_base ho0) hb)
              have n13_:=aM (Kd.R_elder' (z0_ HO772.out) (Kd.R_base ho0) hb)
              have n14_:=aM (Kd.R_lower (Kd.R_newB (Kd.R_newB (Kd.R_new' (Kd.R_new' (Kd.R_new' (Kd.R_new' (Kd.R_new' (Kd.R_new' (Kd.R_new' (Kd.R_new' (Kd.R_new' (Kd.R_new' (Kd.R_new' (Kd.R_new' (Kd.R_new' (Kd.R_new' ho0 (Kd.R_lt (z0_ HO717.out))) (Kd.R_lt (z0_ HO719.out))) (Kd.R_lt (z0_ HO722.out))) (Kd.R_lt (z0_ HO726.out))) (Kd.R_lt (z0_ HO728.out))) (Kd.R_lt (z0_ HO731.out))) (Kd.R_lt (z0_ HO737.out))) (Kd.R_lt (z0_ HO743.out))) (Kd.R_lt (z0_ HO746.out))) (Kd.R_lt (z0_ HO752.out))) (Kd.R_lt (z0_ HO757.out))) (Kd.R_lt (z0_ HO762.out))) (Kd.R_lt (z0_ HO768.out))) (Kd.R_lt (z0_ HO772.out))) (g:=gb734) (o:=.cells #[.int .i64 t732,.int .i64 t733] 49 (0,0)) (z2_ BK734.out)) (g:=gb749) (o:=.cells #[.int .i64 t747,.int .i64 t748] 49 (0,0)) (z2_ BK749.out)) (below_size (z9_ HB.out GE734.out GE739.out GE749.out GE759.out)))
              have n15_:=aM (blkB_ BK734.out hb)
              have n16_:=aM (blkB_ BK739.out hb)
              have n17_:=aM (blkB_ BK749.out hb)
              have n18_:=aM (blkB_ BK759.out hb)
              have n19_:=aM (below_step (z9_ HB.out GE734.out GE739.out GE749.out GE759.out) hb)
              clear HO717
              clear HO719
              clear HO722
              clear HO726
              clear HO728
              clear HO731
              clear HO737
              clear HO743
              clear HO746
              clear HO752
              clear HO757
              clear HO762
              clear HO768
              clear HO772
              clear BK734
              clear BK739
              clear BK749
              clear BK759
              clear HB
              have HO717:=n0_
              have HO719:=n1_
              have HO722:=n2_
              have HO726:=n3_
              have HO728:=n4_
              have HO731:=n5_
              have HO737:=n6_
              have HO743:=n7_
              have HO746:=n8_
              have HO752:=n9_
              have HO757:=n10_
              have HO762:=n11_
              have HO768:=n12_
              have HO772:=n13_
              have HO782:=n14_
              have BK734:=n15_
              have BK739:=n16_
              have BK749:=n17_
              have BK759:=n18_
              have HB:=n19_
              clear n0_ n1_ n2_ n3_ n4_ n5_ n6_ n7_ n8_ n9_ n10_ n11_ n12_ n13_ n14_ n15_ n16_ n17_ n18_ n19_
              (try clear hb)
              (try clear hb2)
              (try clear hk)
              (try clear hi)
              (try clear ho0)
              refine hK.out _ _ (cj2_ BK739.out (cj2_ BK734.out (cj2_ BK749.out (cc2_ BK759.out)))) (fun hHeld=>?_)
              clear hK K
              refine nm_ 131 ?_
              refine pu_ 63 132 #[I,I,I,I,I,I,I,I,I,I,I,I,I,I,I,I,I,I,I,I,I,I,I,I,I,I,I,I,I,I,I,I,I,I,I,I,I,I,I,I,I,I,I,I,I,I,I,I,I,I,I,I,I,I,I,I,I,I,I,I,I,I,I,I,O,O,O,O,O,O,O,O,O,O,O,O,O,O,O,O,O,O] HT_.out ?_
              refine pu_ 64 133 #[I,I,I,I,I,I,I,I,I,I,I,I,I,I,I,I,I,I,I,I,I,I,I,I,I,I,I,I,I,I,I,I,I,I,I,I,I,I,I,I,I,I,I,I,I,I,I,I,I,I,I,I,I,I,I,I,I,I,I,I,I,I,I,I,I,O,O,O,O,O,O,O,O,O,O,O,O,O,O,O,O,O] HT_.out ?_
              refine pu_ 65 134 #[I,I,I,I,I,I,I,I,I,I,I,I,I,I,I,I,I,I,I,I,I,I,I,I,I,I,I,I,I,I,I,I,I,I,I,I,I,I,I,I,I,I,I,I,I,I,I,I,I,I,I,I,I,I,I,I,I,I,I,I,I,I,I,I,I,I,O,O,O,O,O,O,O,O,O,O,O,O,O,O,O,O] HT_.out ?_
              refine pu_ 66 135 #[I,I,I,I,I,I,I,I,I,I,I,I,I,I,I,I,I,I,I,I,I,I,I,I,I,I,I,I,I,I,I,I,I,I,I,I,I,I,I,I,I,I,I,I,I,I,I,I,I,I,I,I,I,I,I,I,I,I,I,I,I,I,I,I,I,I,I,O,O,O,O,O,O,O,O,O,O,O,O,O,O,O] HT_.out ?_
              refine pu_ 67 136 #[I,I,I,I,I,I,I,I,I,I,I,I,I,I,I,I,I,I,I,I,I,I,I,I,I,I,I,I,I,I,I,I,I,I,I,I,I,I,I,I,I,I,I,I,I,I,I,I,I,I,I,I,I,I,I,I,I,I,I,I,I,I,I,I,I,I,I,I,O,O,O,O,O,O,O,O,O,O,O,O,O,O] HT_.out ?_
              refine pu_ 69 138 #[I,I,I,I,I,I,I,I,I,I,I,I,I,I,I,I,I,I,I,I,I,I,I,I,I,I,I,I,I,I,I,I,I,I,I,I,I,I,I,I,I,I,I,I,I,I,I,I,I,I,I,I,I,I,I,I,I,I,I,I,I,I,I,I,I,I,I,I,O,I,O,O,O,O,O,O,O,O,O,O,O,O] HT_.out ?_
              refine tk8_ 68 137 #[I,I,I,I,I,I,I,I,I,I,I,I,I,I,I,I,I,I,I,I,I,I,I,I,I,I,I,I,I,I,I,I,I,I,I,I,I,I,I,I,I,I,I,I,I,I,I,I,I,I,I,I,I,I,I,I,I,I,I,I,I,I,I,I,I,I,I,I,I,I,O,O,O,O,O,O,O,O,O,O,O,O] HT_.out HW_.out hHeld ?_
              refine o1_ 70 139 #[I,I,I,I,I,I,I,I,I,I,I,I,I,I,I,I,I,I,I,I,I,I,I,I,I,I,I,I,I,I,I,I,I,I,I,I,I,I,I,I,I,I,I,I,I,I,I,I,I,I,I,I,I,I,I,I,I,I,I,I,I,I,I,I,I,I,I,I,I,I,I,O,O,O,O,O,O,O,O,O,O,O] HT_.out (fun K hK=>?_)
              refine gs_ Try.func40 #[.string t754] ?_
              with_reducible refine (Y11.calls kj2 t754 t784 t787 _ A38.out).mono ?_
              rintro e w96 ⟨v785,rfl,ho0,hb⟩
              refine ⟨_,rfl,?_⟩
              have n0_:=aM (Kd.R_elder' (z0_ HO717.out) (Kd.R_base ho0) hb)
              have n1_:=aM (Kd.R_elder' (z0_ HO719.out) (Kd.R_base ho0) hb)
              have n2_:=aM (Kd.R_elder' (z0_ HO722.out) (Kd.R_base ho0) hb)
              have n3_:=aM (Kd.R_elder' (z0_ HO726.out) (Kd.R_base ho0) hb)
              have n4_:=aM (Kd.R_elder' (z0_ HO728.out) (Kd.R_base ho0) hb)
              have n5_:=aM (Kd.R_elder' (z0_ HO731.out) (Kd.R_base ho0) hb)
              have n6_:=aM (Kd.R_elder' (z0_ HO737.out) (Kd.R_base ho0) hb)
              have n7_:=aM (Kd.R_elder' (z0_ HO743.out) (Kd.R_base ho0) hb)
              have n8_:=aM (Kd.R_elder' (z0_ HO746.out) (Kd.R_base ho0) hb)
              have n9_:=aM (Kd.R_elder' (z0_ HO752.out) (Kd.R_base ho0) hb)
              have n10_:=aM (Kd.R_elder' (z0_ HO757.out) (Kd.R_base ho0) hb)
              have n11_:=aM (Kd.R_elder' (z0_ HO762.out) (Kd.R_base ho0) hb)
              have n12_:=aM (Kd.R_elder' (z0_ HO768.out) (Kd.R_base ho0) hb)
              have n13_:=aM (Kd.R_elder' (z0_ HO772.out) (Kd.R_base ho0) hb)
              have n14_:=aM (Kd.R_elder' (z0_ HO782.out) (Kd.R_base ho0) hb)
              have n15_:=aM (Kd.R_lower (Kd.R_newB (Kd.R_newB (Kd.R_new' (Kd.R_new' (Kd.R_new' (Kd.R_new' (Kd.R_new' (Kd.R_new' (Kd.R_new' (Kd.R_new' (Kd.R_new' (Kd.R_new' (Kd.R_new' (Kd.R_new' (Kd.R_new' (Kd.R_new' (Kd.R_new' ho0 (Kd.R_lt (z0_ HO717.out))) (Kd.R_lt (z0_ HO719.out))) (Kd.R_lt (z0_ HO722.out))) (Kd.R_lt (z0_ HO726.out))) (Kd.R_lt (z0_ HO728.out))) (Kd.R_lt (z0_ HO731.out))) (Kd.R_lt (z0_ HO737.out))) (Kd.R_lt (z0_ HO743.out))) (Kd.R_lt (z0_ HO746.out))) (Kd.R_lt (z0_ HO752.out))) (Kd.R_lt (z0_ HO757.out))) (Kd.R_lt (z0_ HO762.out))) (Kd.R_lt (z0_ HO768.out))) (Kd.R_lt (z0_ HO772.out))) (Kd.R_lt (z0_ HO782.out))) (g:=gb734) (o:=.cells #[.int .i64 t732,.int .i64 t733] 49 (0,0)) (z2_ BK734.out)) (g:=gb749) (o:=.cells #[.int .i64 t747,.int .i64 t748] 49 (0,0)) (z2_ BK749.out)) (below_size (z9_ HB.out GE734.out GE739.out GE749.out GE759.out)))
              have n16_:=aM (blkB_ BK734.out hb)
              have n17_:=aM (blkB_ BK739.out hb)
              have n18_:=aM (blkB_ BK749.out hb)
              have n19_:=aM (blkB_ BK759.out hb)
              have n20_:=aM (below_step (z9_ HB.out GE734.out GE739.out GE749.out GE759.out) hb)
              clear HO717
              clear HO719
              clear HO722
              clear HO726
              clear HO728
              clear HO731
              clear HO737
              clear HO743
              clear HO746
              clear HO752
              clear HO757
              clear HO762
              clear HO768
              clear HO772
              clear HO782
              clear BK734
              clear BK739
              clear BK749
              clear BK759
              clear HB
              have HO717:=n0_
              have HO719:=n1_
              have HO722:=n2_
              have HO726:=n3_
              have HO728:=n4_
              have HO731:=n5_
              have HO737:=n6_
              have HO743:=n7_
              have HO746:=n8_
              have HO752:=n9_
              have HO757:=n10_
              have HO762:=n11_
              have HO768:=n12_
              have HO772:=n13_
              have HO782:=n14_
              have HO786:=n15_
              have BK734:=n16_
              have BK739:=n17_
              have BK749:=n18_
              have BK759:=n19_
              have HB:=n20_
              clear n0_ n1_ n2_ n3_ n4_ n5_ n6_ n7_ n8_ n9_ n10_ n11_ n12_ n13_ n14_ n15_ n16_ n17_ n18_ n19_ n20_
              (try clear hb)
              (try clear hb2)
              (try clear hk)
              (try clear hi)
              (try clear ho0)
              obtain ⟨Ao97,co97,eo97⟩:=Kd.R_slice HO786.out
              (first | subst eo97 | (injection eo97 with f1_ f2_ f3_;have f4_:=f1_.symm;have f5_:=f3_.symm;clear f1_ f2_ f3_;subst f4_;subst f5_))
              refine hK.out _ _ (cj2_ BK739.out (cj2_ BK734.out (cj2_ BK749.out (cc2_ BK759.out)))) (fun hHeld=>?_)
              clear hK K
              refine nm_ 139 ?_
              refine pu_ 71 140 #[I,I,I,I,I,I,I,I,I,I,I,I,I,I,I,I,I,I,I,I,I,I,I,I,I,I,I,I,I,I,I,I,I,I,I,I,I,I,I,I,I,I,I,I,I,I,I,I,I,I,I,I,I,I,I,I,I,I,I,I,I,I,I,I,I,I,I,I,I,I,I,I,O,O,O,O,O,O,O,O,O,O] HT_.out ?_
              refine o1_ 72 141 #[I,I,I,I,I,I,I,I,I,I,I,I,I,I,I,I,I,I,I,I,I,I,I,I,I,I,I,I,I,I,I,I,I,I,I,I,I,I,I,I,I,I,I,I,I,I,I,I,I,I,I,I,I,I,I,I,I,I,I,I,I,I,I,I,I,I,I,I,I,I,I,I,I,O,O,O,O,O,O,O,O,O] HT_.out (fun K hK=>?_)
              refine gs_ Try.func30 #[.slice Ao71 t755.length co71,.slice Ao97 t784.length co97] ?_
              with_reducible refine (Y6.calls kj2 _ _ t755 _ _ t784 true _ ?s1 ?s2 ?s3 ?s4 A39.out).mono ?_
              (case s1=>repeat (first | exact (Kd.R_reads' HO757.out).2.2 | (with_reducible refine Kd.C_alloc ?_ _) | (with_reducible refine Kd.C_drewN ?_ _) | (with_reducible refine Kd.C_drew ?_)))
              (case s2=>exact (Kd.R_reads' HO757.out).2.1)
              (case s3=>repeat (first | exact (Kd.R_reads' HO786.out).2.2 | (with_reducible refine Kd.C_alloc ?_ _) | (with_reducible refine Kd.C_drewN ?_ _) | (with_reducible refine Kd.C_drew ?_)))
              (case s4=>exact (Kd.R_reads' HO786.out).2.1)
              rintro e w' ⟨rfl,⟨nd,rfl⟩⟩
              refine ⟨_,rfl,?_⟩
              refine hK.out _ _ (cj2_ BK739.out (cj2_ BK734.out (cj2_ BK749.out (cc2_ BK759.out)))) (fun hHeld=>?_)
              clear hK K
              refine nm_ 141 ?_
              refine pu_ 73 142 #[I,I,I,I,I,I,I,I,I,I,I,I,I,I,I,I,I,I,I,I,I,I,I,I,I,I,I,I,I,I,I,I,I,I,I,I,I,I,I,I,I,I,I,I,I,I,I,I,I,I,I,I,I,I,I,I,I,I,I,I,I,I,I,I,I,I,I,I,I,I,I,I,I,I,O,O,O,O,O,O,O,O] HT_.out ?_
              refine pu_ 74 143 #[I,I,I,I,I,I,I,I,I,I,I,I,I,I,I,I,I,I,I,I,I,I,I,I,I,I,I,I,I,I,I,I,I,I,I,I,I,I,I,I,I,I,I,I,I,I,I,I,I,I,I,I,I,I,I,I,I,I,I,I,I,I,I,I,I,I,I,I,I,I,I,I,I,I,I,O,O,O,O,O,O,O] HT_.out ?_
              refine pu_ 75 144 #[I,I,I,I,I,I,I,I,I,I,I,I,I,I,I,I,I,I,I,I,I,I,I,I,I,I,I,I,I,I,I,I,I,I,I,I,I,I,I,I,I,I,I,I,I,I,I,I,I,I,I,I,I,I,I,I,I,I,I,I,I,I,I,I,I,I,I,I,I,I,I,I,I,I,I,I,O,O,O,O,O,O] HT_.out ?_
              refine pu_ 76 145 #[I,I,I,I,I,I,I,I,I,I,I,I,I,I,I,I,I,I,I,I,I,I,I,I,I,I,I,I,I,I,I,I,I,I,I,I,I,I,I,I,I,I,I,I,I,I,I,I,I,I,I,I,I,I,I,I,I,I,I,I,I,I,I,I,I,I,I,I,I,I,I,I,I,I,I,I,I,O,O,O,O,O] HT_.out ?_
              refine pu_ 78 147 #[I,I,I,I,I,I,I,I,I,I,I,I,I,I,I,I,I,I,I,I,I,I,I,I,I,I,I,I,I,I,I,I,I,I,I,I,I,I,I,I,I,I,I,I,I,I,I,I,I,I,I,I,I,I,I,I,I,I,I,I,I,I,I,I,I,I,I,I,I,I,I,I,I,I,I,I,I,O,I,O,O,O] HT_.out ?_
              refine o1_ 77 146 #[I,I,I,I,I,I,I,I,I,I,I,I,I,I,I,I,I,I,I,I,I,I,I,I,I,I,I,I,I,I,I,I,I,I,I,I,I,I,I,I,I,I,I,I,I,I,I,I,I,I,I,I,I,I,I,I,I,I,I,I,I,I,I,I,I,I,I,I,I,I,I,I,I,I,I,I,I,I,I,O,O,O] HT_.out (fun K hK=>?_)
              refine gs_ Try.func41 #[.slice Ao46 t714.length co46] ?_
              with_reducible refine (Y12.calls kj2 _ _ t714 t789 _ ?s1 ?s2 A41.out).mono ?_
              (case s1=>repeat (first | exact (Kd.R_reads' HO717.out).2.2 | (with_reducible refine Kd.C_alloc ?_ _) | (with_reducible refine Kd.C_drewN ?_ _) | (with_reducible refine Kd.C_drew ?_)))
              (case s2=>exact (Kd.R_reads' HO717.out).2.1)
              rintro e w98 ⟨rfl,hb⟩
              refine ⟨_,rfl,?_⟩
              have n0_:=aM (Kd.R_below (z0_ HO717.out) hb)
              have n1_:=aM (Kd.R_below (z0_ HO719.out) hb)
              have n2_:=aM (Kd.R_below (z0_ HO722.out) hb)
              have n3_:=aM (Kd.R_below (z0_ HO726.out) hb)
              have n4_:=aM (Kd.R_below (z0_ HO728.out) hb)
              have n5_:=aM (Kd.R_below (z0_ HO731.out) hb)
              have n6_:=aM (Kd.R_below (z0_ HO737.out) hb)
              have n7_:=aM (Kd.R_below (z0_ HO743.out) hb)
              have n8_:=aM (Kd.R_below (z0_ HO746.out) hb)
              have n9_:=aM (Kd.R_below (z0_ HO752.out) hb)
              have n10_:=aM (Kd.R_below (z0_ HO757.out) hb)
              have n11_:=aM (Kd.R_below (z0_ HO762.out) hb)
              have n12_:=aM (Kd.R_below (z0_ HO768.out) hb)
              have n13_:=aM (Kd.R_below (z0_ HO772.out) hb)
              have n14_:=aM (Kd.R_below (z0_ HO782.out) hb)
              have n15_:=aM (Kd.R_below (z0_ HO786.out) hb)
              have n16_:=aM (blkB_ BK734.out hb)
              have n17_:=aM (blkB_ BK739.out hb)
              have n18_:=aM (blkB_ BK749.out hb)
              have n19_:=aM (blkB_ BK759.out hb)
              have n20_:=aM (below_step (z9_ HB.out GE734.out GE739.out GE749.out GE759.out) hb)
              clear HO717
              clear HO719
              clear HO722
              clear HO726
              clear HO728
              clear HO731
              clear HO737
              clear HO743
              clear HO746
              clear HO752
              clear HO757
              clear HO762
              clear HO768
              clear HO772
              clear HO782
              clear HO786
              clear BK734
              clear BK739
              clear BK749
              clear BK759
              clear HB
              have HO717:=n0_
              have HO719:=n1_
              have HO722:=n2_
              have HO726:=n3_
              have HO728:=n4_
              have HO731:=n5_
              have HO737:=n6_
              have HO743:=n7_
              have HO746:=n8_
              have HO752:=n9_
              have HO757:=n10_
              have HO762:=n11_
              have HO768:=n12_
              have HO772:=n13_
              have HO782:=n14_
              have HO786:=n15_
              have BK734:=n16_
              have BK739:=n17_
              have BK749:=n18_
              have BK759:=n19_
              have HB:=n20_
              clear n0_ n1_ n2_ n3_ n4_ n5_ n6_ n7_ n8_ n9_ n10_ n11_ n12_ n13_ n14_ n15_ n16_ n17_ n18_ n19_ n20_
              (try clear hb)
              refine hK.out _ _ (cj2_ BK739.out (cj2_ BK734.out (cj2_ BK749.out (cc2_ BK759.out)))) (fun hHeld=>?_)
              clear hK K
              refine nm_ 146 ?_
              refine o1_ 79 148 #[I,I,I,I,I,I,I,I,I,I,I,I,I,I,I,I,I,I,I,I,I,I,I,I,I,I,I,I,I,I,I,I,I,I,I,I,I,I,I,I,I,I,I,I,I,I,I,I,I,I,I,I,I,I,I,I,I,I,I,I,I,I,I,I,I,I,I,I,I,I,I,I,I,I,I,I,I,I,I,I,O,O] HT_.out (fun K hK=>?_)
              refine gs_ Try.func42 #[.slice Ao46 t714.length co46] ?_
              with_reducible refine (Y1.calls kj2 _ _ t714 t790 _ ?s1 ?s2 A42.out).mono ?_
              (case s1=>repeat (first | exact (Kd.R_reads' HO717.out).2.2 | (with_reducible refine Kd.C_alloc ?_ _) | (with_reducible refine Kd.C_drewN ?_ _) | (with_reducible refine Kd.C_drew ?_)))
              (case s2=>exact (Kd.R_reads' HO717.out).2.1)
              rintro e w99 ⟨rfl,hb⟩
              refine ⟨_,rfl,?_⟩
              have n0_:=aM (Kd.R_below (z0_ HO717.out) hb)
              have n1_:=aM (Kd.R_below (z0_ HO719.out) hb)
              have n2_:=aM (Kd.R_below (z0_ HO722.out) hb)
              have n3_:=aM (Kd.R_below (z0_ HO726.out) hb)
              have n4_:=aM (Kd.R_below (z0_ HO728.out) hb)
              have n5_:=aM (Kd.R_below (z0_ HO731.out) hb)
              have n6_:=aM (Kd.R_below (z0_ HO737.out) hb)
              have n7_:=aM (Kd.R_below (z0_ HO743.out) hb)
              have n8_:=aM (Kd.R_below (z0_ HO746.out) hb)
              have n9_:=aM (Kd.R_below (z0_ HO752.out) hb)
              have n10_:=aM (Kd.R_below (z0_ HO757.out) hb)
              have n11_:=aM (Kd.R_below (z0_ HO762.out) hb)
              have n12_:=aM (Kd.R_below (z0_ HO768.out) hb)
              have n13_:=aM (Kd.R_below (z0_ HO772.out) hb)
              have n14_:=aM (Kd.R_below (z0_ HO782.out) hb)
              have n15_:=aM (Kd.R_below (z0_ HO786.out) hb)
              have n16_:=aM (blkB_ BK734.out hb)
              have n17_:=aM (blkB_ BK739.out hb)
              have n18_:=aM (blkB_ BK749.out hb)
              have n19_:=aM (blkB_ BK759.out hb)
              have n20_:=aM (below_step (z9_ HB.out GE734.out GE739.out GE749.out GE759.out) hb)
              clear HO717
              clear HO719
              clear HO722
              clear HO726
              clear HO728
              clear HO731
              clear HO737
              clear HO743
              clear HO746
              clear HO752
              clear HO757
              clear HO762
              clear HO768
              clear HO772
              clear HO782
              clear HO786
              clear BK734
              clear BK739
              clear BK749
              clear BK759
              clear HB
              have HO717:=n0_
              have HO719:=n1_
              have HO722:=n2_
              have HO726:=n3_
              have HO728:=n4_
              have HO731:=n5_
              have HO737:=n6_
              have HO743:=n7_
              have HO746:=n8_
              have HO752:=n9_
              have HO757:=n10_
              have HO762:=n11_
              have HO768:=n12_
              have HO772:=n13_
              have HO782:=n14_
              have HO786:=n15_
              have BK734:=n16_
              have BK739:=n17_
              have BK749:=n18_
              have BK759:=n19_
              have HB:=n20_
              clear n0_ n1_ n2_ n3_ n4_ n5_ n6_ n7_ n8_ n9_ n10_ n11_ n12_ n13_ n14_ n15_ n16_ n17_ n18_ n19_ n20_
              (try clear hb)
              refine hK.out _ _ (cj2_ BK739.out (cj2_ BK734.out (cj2_ BK749.out (cc2_ BK759.out)))) (fun hHeld=>?_)
              clear hK K
              refine nm_ 148 ?_
              refine pu_ 80 149 #[I,I,I,I,I,I,I,I,I,I,I,I,I,I,I,I,I,I,I,I,I,I,I,I,I,I,I,I,I,I,I,I,I,I,I,I,I,I,I,I,I,I,I,I,I,I,I,I,I,I,I,I,I,I,I,I,I,I,I,I,I,I,I,I,I,I,I,I,I,I,I,I,I,I,I,I,I,I,I,I,I,O] HT_.out ?_
              refine pu_ 81 150 #[I,I,I,I,I,I,I,I,I,I,I,I,I,I,I,I,I,I,I,I,I,I,I,I,I,I,I,I,I,I,I,I,I,I,I,I,I,I,I,I,I,I,I,I,I,I,I,I,I,I,I,I,I,I,I,I,I,I,I,I,I,I,I,I,I,I,I,I,I,I,I,I,I,I,I,I,I,I,I,I,I,I] HT_.out ?_
              refine done_ (done_of HT_.out (by kernel_rfl)) ?_
              go_upto_region 16 with (fail)
              go_cut [184] (fun v184 wc=>∃ (kq:Nat) (x184_43:Bool),v184 = .bool x184_43∧Aside0 (Y0.j1 kq t714 t715 t720 x184_43=some r)∧Aside0 (kq≤kj2)∧Aside0 (Kd.R k49 49 wc w.heap.size (fun k_=>some k_≠((.slice Ao47 t715.length co47):Value).ownBlock∧some k_≠((.slice Ao79 t720.length co79):Value).ownBlock∧some k_≠((.slice Ao56 t735.length co56):Value).ownBlock∧some k_≠((.slice Ao71 t755.length co71):Value).ownBlock∧k_≠gb734∧k_≠gb749) (.slice Ao46 t714.length co46) t714)∧Aside0 (Kd.R k49 49 wc w.heap.size (fun k_=>some k_≠((.slice Ao46 t714.length co46):Value).ownBlock∧some k_≠((.slice Ao79 t720.length co79):Value).ownBlock∧some k_≠((.slice Ao56 t735.length co56):Value).ownBlock∧some k_≠((.slice Ao71 t755.length co71):Value).ownBlock∧k_≠gb734∧k_≠gb749) (.slice Ao47 t715.length co47) t715)∧Aside0 (Kd.R k49 49 wc w.heap.size (fun k_=>some k_≠((.slice Ao46 t714.length co46):Value).ownBlock∧some k_≠((.slice Ao47 t715.length co47):Value).ownBlock∧some k_≠((.slice Ao56 t735.length co56):Value).ownBlock∧some k_≠((.slice Ao71 t755.length co71):Value).ownBlock∧k_≠gb734∧k_≠gb749) (.slice Ao79 t720.length co79) t720)∧Aside0 (Kd.R k49 49 wc w.heap.size (fun k_=>some k_≠((.slice Ao46 t714.length co46):Value).ownBlock∧some k_≠((.slice Ao47 t715.length co47):Value).ownBlock∧some k_≠((.slice Ao79 t720.length co79):Value).ownBlock∧some k_≠((.slice Ao71 t755.length co71):Value).ownBlock∧k_≠gb734∧k_≠gb749) (.slice Ao56 t735.length co56) t735)∧Aside0 (Kd.R k49 49 wc w.heap.size (fun k_=>some k_≠((.slice Ao46 t714.length co46):Value).ownBlock∧some k_≠((.slice Ao47 t715.length co47):Value).ownBlock∧some k_≠((.slice Ao79 t720.length co79):Value).ownBlock∧some k_≠((.slice Ao56 t735.length co56):Value).ownBlock∧k_≠gb734∧k_≠gb749) (.slice Ao71 t755.length co71) t755)∧Aside0 (wc.heap[gb734]? = some (.cells #[.int .i64 t732,.int .i64 t733] 49 (0,0)))∧Aside0 (wc.heap[gb739]? = some (.cells #[(.slice Ao56 t735.length co56),.int .i64 t738] 53 (0,0)))∧Aside0 (wc.heap[gb749]? = some (.cells #[.int .i64 t747,.int .i64 t748] 49 (0,0)))∧Aside0 (wc.heap[gb759]? = some (.cells #[(.slice Ao71 t755.length co71),.int .i64 t758] 53 (0,0)))∧Aside0 (Below w.heap.size w wc))
              case first=>as_aux_lemma =>
               have H:=HC44.out
               clear HC44
               by_cases c100:t753.toList=([]:List UInt8)
               ·rw [if_pos c100] at H
                have c100b0:(t753.toList == ([]:List UInt8))=true:=beq_iff_eq.mpr c100
                have c100b1:(t753.toList != ([]:List UInt8))=false:=bne_eq_false_iff_eq.mpr c100
                clear c100
                (first | rw [c100b0] | (simp only [i64_w,i32_w];rw [c100b0]) | skip)
                by_cases c101:t758=0
                ·rw [if_pos c101] at H
                 have c101b0:(t758 == 0)=true:=beq_iff_eq.mpr c101
                 have c101b1:(t758 != 0)=false:=bne_eq_false_iff_eq.mpr c101
                 clear c101
                 replace H:=bS H
                 obtain ⟨t791,A1020,H⟩:=H
                 replace H:(if t791.toList=t754.toList then (if t738=0 then ((Y4.f kj2 t735 t732 t733).bind fun t792=>(Y0.j1 kj2 t714 t715 t720 (!t792))) else (Y0.j1 kj2 t714 t715 t720 false)) else (none))=some r:=H
                 have A102:=aM A1020
                 clear A1020
                 by_cases c103:t791.toList=t754.toList
                 ·rw [if_pos c103] at H
                  have c103b0:(t791.toList == t754.toList)=true:=beq_iff_eq.mpr c103
                  have c103b1:(t791.toList != t754.toList)=false:=bne_eq_false_iff_eq.mpr c103
                  clear c103
                  by_cases c104:t738=0
                  ·rw [if_pos c104] at H
                   have c104b0:(t738 == 0)=true:=beq_iff_eq.mpr c104
                   have c104b1:(t738 != 0)=false:=bne_eq_false_iff_eq.mpr c104
                   clear c104
                   replace H:=bS H
                   obtain ⟨t792,A1050,H⟩:=H
                   replace H:(Y0.j1 kj2 t714 t715 t720 (!t792))=some r:=H
                   have A105:=aM A1050
                   clear A1050
                   have H':=aM H
                   clear H
                   have hnb106:=NB759_734.out
                   have hnc106:=NB734_759.out
                   have hnb107:=NB759_739.out
                   have hnc107:=NB739_759.out
                   have hnb108:=NB759_749.out
                   have hnc108:=NB749_759.out
                   have ⟨hcz109_0,hcz109_1,hfz109_0,hfz109_1⟩:=cz2_ BK759.out
                   go_wp2_with (first | (go_at_call 27;(with_reducible refine (Y9.calls kj2 _ _ t755 t791 _ ?s1 ?s2 A102.out).mono ?_);(case s1=>repeat (first | exact (Kd.R_reads' HO757.out).2.2 | (with_reducible refine Kd.C_alloc ?_ _) | (with_reducible refine Kd.C_drewN ?_ _) | (with_reducible refine Kd.C_drew ?_)));(case s2=>exact (Kd.R_reads' HO757.out).2.1);rintro e w110 ⟨rfl,hb⟩;have n0_:=aM (Kd.R_below (z0_ HO717.out) hb);have n1_:=aM (Kd.R_below (z0_ HO719.out) hb);have n2_:=aM (Kd.R_below (z0_ HO722.out) hb);have n3_:=aM (Kd.R_below (z0_ HO726.out) hb);have n4_:=aM (Kd.R_below (z0_ HO728.out) hb);have n5_:=aM (Kd.R_below (z0_ HO731.out) hb);have n6_:=aM (Kd.R_below (z0_ HO737.out) hb);have n7_:=aM (Kd.R_below (z0_ HO743.out) hb);have n8_:=aM (Kd.R_below (z0_ HO746.out) hb);have n9_:=aM (Kd.R_below (z0_ HO752.out) hb);have n10_:=aM (Kd.R_below (z0_ HO757.out) hb);have n11_:=aM (Kd.R_below (z0_ HO762.out) hb);have n12_:=aM (Kd.R_below (z0_ HO768.out) hb);have n13_:=aM (Kd.R_below (z0_ HO772.out) hb);have n14_:=aM (Kd.R_below (z0_ HO782.out) hb);have n15_:=aM (Kd.R_below (z0_ HO786.out) hb);have n16_:=aM (blkB_ BK734.out hb);have n17_:=aM (blkB_ BK739.out hb);have n18_:=aM (blkB_ BK749.out hb);have n19_:=aM (blkB_ BK759.out hb);have n20_:=aM (below_step (z9_ HB.out GE734.out GE739.out GE749.out GE759.out) hb);clear HO717;clear HO719;clear HO722;clear HO726;clear HO728;clear HO731;clear HO737;clear HO743;clear HO746;clear HO752;clear HO757;clear HO762;clear HO768;clear HO772;clear HO782;clear HO786;clear BK734;clear BK739;clear BK749;clear BK759;clear HB;have HO717:=n0_;have HO719:=n1_;have HO722:=n2_;have HO726:=n3_;have HO728:=n4_;have HO731:=n5_;have HO737:=n6_;have HO743:=n7_;have HO746:=n8_;have HO752:=n9_;have HO757:=n10_;have HO762:=n11_;have HO768:=n12_;have HO772:=n13_;have HO782:=n14_;have HO786:=n15_;have BK734:=n16_;have BK739:=n17_;have BK749:=n18_;have BK759:=n19_;have HB:=n20_;clear n0_ n1_ n2_ n3_ n4_ n5_ n6_ n7_ n8_ n9_ n10_ n11_ n12_ n13_ n14_ n15_ n16_ n17_ n18_ n19_ n20_;(try clear hb);have hnb111:=NB739_734.out;have hnc111:=NB734_739.out;have hnb112:=NB739_749.out;have hnc112:=NB749_739.out;have ⟨hcz113_0,hcz113_1,hfz113_0,hfz113_1⟩:=cz2_ BK739.out;have hnb114:=NB734_749.out;have hnc114:=NB749_734.out;have ⟨hcz115_0,hcz115_1,hfz115_0,hfz115_1⟩:=cz2_ BK734.out) | (go_at_call 37;(with_reducible refine (Y4.calls kj2 _ _ t735 t732 t733 t792 _ ?s1 ?s2 A105.out).mono ?_);(case s1=>repeat (first | exact (Kd.R_reads' HO737.out).2.2 | (with_reducible refine Kd.C_alloc ?_ _) | (with_reducible refine Kd.C_drewN ?_ _) | (with_reducible refine Kd.C_drew ?_)));(case s2=>exact (Kd.R_reads' HO737.out).2.1);rintro e w116 ⟨rfl,hb⟩;have n0_:=aM (Kd.R_below (z0_ HO717.out) hb);have n1_:=aM (Kd.R_below (z0_ HO719.out) hb);have n2_:=aM (Kd.R_below (z0_ HO722.out) hb);have n3_:=aM (Kd.R_below (z0_ HO726.out) hb);have n4_:=aM (Kd.R_below (z0_ HO728.out) hb);have n5_:=aM (Kd.R_below (z0_ HO731.out) hb);have n6_:=aM (Kd.R_below (z0_ HO737.out) hb);have n7_:=aM (Kd.R_below (z0_ HO743.out) hb);have n8_:=aM (Kd.R_below (z0_ HO746.out) hb);have n9_:=aM (Kd.R_below (z0_ HO752.out) hb);have n10_:=aM (Kd.R_below (z0_ HO757.out) hb);have n11_:=aM (Kd.R_below (z0_ HO762.out) hb);have n12_:=aM (Kd.R_below (z0_ HO768.out) hb);have n13_:=aM (Kd.R_below (z0_ HO772.out) hb);have n14_:=aM (Kd.R_below (z0_ HO782.out) hb);have n15_:=aM (Kd.R_below (z0_ HO786.out) hb);have n16_:=aM (blkB_ BK734.out hb);have n17_:=aM (blkB_ BK739.out hb);have n18_:=aM (blkB_ BK749.out hb);have n19_:=aM (blkB_ BK759.out hb);have n20_:=aM (below_step (z9_ HB.out GE734.out GE739.out GE749.out GE759.out) hb);clear HO717;clear HO719;clear HO722;clear HO726;clear HO728;clear HO731;clear HO737;clear HO743;clear HO746;clear HO752;clear HO757;clear HO762;clear HO768;clear HO772;clear HO782;clear HO786;clear BK734;clear BK739;clear BK749;clear BK759;clear HB;have HO717:=n0_;have HO719:=n1_;have HO722:=n2_;have HO726:=n3_;have HO728:=n4_;have HO731:=n5_;have HO737:=n6_;have HO743:=n7_;have HO746:=n8_;have HO752:=n9_;have HO757:=n10_;have HO762:=n11_;have HO768:=n12_;have HO772:=n13_;have HO782:=n14_;have HO786:=n15_;have BK734:=n16_;have BK739:=n17_;have BK749:=n18_;have BK759:=n19_;have HB:=n20_;clear n0_ n1_ n2_ n3_ n4_ n5_ n6_ n7_ n8_ n9_ n10_ n11_ n12_ n13_ n14_ n15_ n16_ n17_ n18_ n19_ n20_;(try clear hb)))
                   go_meet
                   case rel=>exact ⟨_,(!t792),(z3_),H',⟨z16_ HJ2.out⟩,⟨z27_ HO717.out⟩,⟨z27_ HO719.out⟩,⟨z27_ HO722.out⟩,⟨z46_ HO737.out⟩,⟨z47_ HO757.out⟩,⟨z2_ BK734.out⟩,⟨z2_ BK739.out⟩,⟨z2_ BK749.out⟩,⟨z2_ BK759.out⟩,⟨z9_ HB.out GE734.out GE739.out GE749.out GE759.out⟩⟩
                  ·rw [if_neg c104] at H
                   have c104b0:(t738 == 0)=false:=beq_eq_false_iff_ne.mpr c104
                   have c104b1:(t738 != 0)=true:=bne_iff_ne.mpr c104
                   have H':=aM H
                   clear H
                   have hnb117:=NB759_734.out
                   have hnc117:=NB734_759.out
                   have hnb118:=NB759_739.out
                   have hnc118:=NB739_759.out
                   have hnb119:=NB759_749.out
                   have hnc119:=NB749_759.out
                   have ⟨hcz120_0,hcz120_1,hfz120_0,hfz120_1⟩:=cz2_ BK759.out
                   go_wp2_with (first | (go_at_call 27;(with_reducible refine (Y9.calls kj2 _ _ t755 t791 _ ?s1 ?s2 A102.out).mono ?_);(case s1=>repeat (first | exact (Kd.R_reads' HO757.out).2.2 | (with_reducible refine Kd.C_alloc ?_ _) | (with_reducible refine Kd.C_drewN ?_ _) | (with_reducible refine Kd.C_drew ?_)));(case s2=>exact (Kd.R_reads' HO757.out).2.1);rintro e w121 ⟨rfl,hb⟩;have n0_:=aM (Kd.R_below (z0_ HO717.out) hb);have n1_:=aM (Kd.R_below (z0_ HO719.out) hb);have n2_:=aM (Kd.R_below (z0_ HO722.out) hb);have n3_:=aM (Kd.R_below (z0_ HO726.out) hb);have n4_:=aM (Kd.R_below (z0_ HO728.out) hb);have n5_:=aM (Kd.R_below (z0_ HO731.out) hb);have n6_:=aM (Kd.R_below (z0_ HO737.out) hb);have n7_:=aM (Kd.R_below (z0_ HO743.out) hb);have n8_:=aM (Kd.R_below (z0_ HO746.out) hb);have n9_:=aM (Kd.R_below (z0_ HO752.out) hb);have n10_:=aM (Kd.R_below (z0_ HO757.out) hb);have n11_:=aM (Kd.R_below (z0_ HO762.out) hb);have n12_:=aM (Kd.R_below (z0_ HO768.out) hb);have n13_:=aM (Kd.R_below (z0_ HO772.out) hb);have n14_:=aM (Kd.R_below (z0_ HO782.out) hb);have n15_:=aM (Kd.R_below (z0_ HO786.out) hb);have n16_:=aM (blkB_ BK734.out hb);have n17_:=aM (blkB_ BK739.out hb);have n18_:=aM (blkB_ BK749.out hb);have n19_:=aM (blkB_ BK759.out hb);have n20_:=aM (below_step (z9_ HB.out GE734.out GE739.out GE749.out GE759.out) hb);clear HO717;clear HO719;clear HO722;clear HO726;clear HO728;clear HO731;clear HO737;clear HO743;clear HO746;clear HO752;clear HO757;clear HO762;clear HO768;clear HO772;clear HO782;clear HO786;clear BK734;clear BK739;clear BK749;clear BK759;clear HB;have HO717:=n0_;have HO719:=n1_;have HO722:=n2_;have HO726:=n3_;have HO728:=n4_;have HO731:=n5_;have HO737:=n6_;have HO743:=n7_;have HO746:=n8_;have HO752:=n9_;have HO757:=n10_;have HO762:=n11_;have HO768:=n12_;have HO772:=n13_;have HO782:=n14_;have HO786:=n15_;have BK734:=n16_;have BK739:=n17_;have BK749:=n18_;have BK759:=n19_;have HB:=n20_;clear n0_ n1_ n2_ n3_ n4_ n5_ n6_ n7_ n8_ n9_ n10_ n11_ n12_ n13_ n14_ n15_ n16_ n17_ n18_ n19_ n20_;(try clear hb);have hnb122:=NB739_734.out;have hnc122:=NB734_739.out;have hnb123:=NB739_749.out;have hnc123:=NB749_739.out;have ⟨hcz124_0,hcz124_1,hfz124_0,hfz124_1⟩:=cz2_ BK739.out))
                   go_meet
                   case rel=>exact ⟨_,(false),(z3_),H',⟨z16_ HJ2.out⟩,⟨z27_ HO717.out⟩,⟨z27_ HO719.out⟩,⟨z27_ HO722.out⟩,⟨z46_ HO737.out⟩,⟨z47_ HO757.out⟩,⟨z2_ BK734.out⟩,⟨z2_ BK739.out⟩,⟨z2_ BK749.out⟩,⟨z2_ BK759.out⟩,⟨z9_ HB.out GE734.out GE739.out GE749.out GE759.out⟩⟩
                 ·rw [if_neg c103] at H
                  exact nO H
                ·rw [if_neg c101] at H
                 have c101b0:(t758 == 0)=false:=beq_eq_false_iff_ne.mpr c101
                 have c101b1:(t758 != 0)=true:=bne_iff_ne.mpr c101
                 by_cases c125:t738=0
                 ·rw [if_pos c125] at H
                  have c125b0:(t738 == 0)=true:=beq_iff_eq.mpr c125
                  have c125b1:(t738 != 0)=false:=bne_eq_false_iff_eq.mpr c125
                  clear c125
                  replace H:=bS H
                  obtain ⟨t793,A1260,H⟩:=H
                  replace H:(Y0.j1 kj2 t714 t715 t720 (!t793))=some r:=H
                  have A126:=aM A1260
                  clear A1260
                  have H':=aM H
                  clear H
                  have hnb127:=NB759_734.out
                  have hnc127:=NB734_759.out
                  have hnb128:=NB759_739.out
                  have hnc128:=NB739_759.out
                  have hnb129:=NB759_749.out
                  have hnc129:=NB749_759.out
                  have ⟨hcz130_0,hcz130_1,hfz130_0,hfz130_1⟩:=cz2_ BK759.out
                  have hnb131:=NB739_734.out
                  have hnc131:=NB734_739.out
                  have hnb132:=NB739_749.out
                  have hnc132:=NB749_739.out
                  have ⟨hcz133_0,hcz133_1,hfz133_0,hfz133_1⟩:=cz2_ BK739.out
                  have hnb134:=NB734_749.out
                  have hnc134:=NB749_734.out
                  have ⟨hcz135_0,hcz135_1,hfz135_0,hfz135_1⟩:=cz2_ BK734.out
                  go_wp2_with (first | (go_at_call 37;(with_reducible refine (Y4.calls kj2 _ _ t735 t732 t733 t793 _ ?s1 ?s2 A126.out).mono ?_);(case s1=>repeat (first | exact (Kd.R_reads' HO737.out).2.2 | (with_reducible refine Kd.C_alloc ?_ _) | (with_reducible refine Kd.C_drewN ?_ _) | (with_reducible refine Kd.C_drew ?_)));(case s2=>exact (Kd.R_reads' HO737.out).2.1);rintro e w136 ⟨rfl,hb⟩;have n0_:=aM (Kd.R_below (z0_ HO717.out) hb);have n1_:=aM (Kd.R_below (z0_ HO719.out) hb);have n2_:=aM (Kd.R_below (z0_ HO722.out) hb);have n3_:=aM (Kd.R_below (z0_ HO726.out) hb);have n4_:=aM (Kd.R_below (z0_ HO728.out) hb);have n5_:=aM (Kd.R_below (z0_ HO731.out) hb);have n6_:=aM (Kd.R_below (z0_ HO737.out) hb);have n7_:=aM (Kd.R_below (z0_ HO743.out) hb);have n8_:=aM (Kd.R_below (z0_ HO746.out) hb);have n9_:=aM (Kd.R_below (z0_ HO752.out) hb);have n10_:=aM (Kd.R_below (z0_ HO757.out) hb);have n11_:=aM (Kd.R_below (z0_ HO762.out) hb);have n12_:=aM (Kd.R_below (z0_ HO768.out) hb);have n13_:=aM (Kd.R_below (z0_ HO772.out) hb);have n14_:=aM (Kd.R_below (z0_ HO782.out) hb);have n15_:=aM (Kd.R_below (z0_ HO786.out) hb);have n16_:=aM (blkB_ BK734.out hb);have n17_:=aM (blkB_ BK739.out hb);have n18_:=aM (blkB_ BK749.out hb);have n19_:=aM (blkB_ BK759.out hb);have n20_:=aM (below_step (z9_ HB.out GE734.out GE739.out GE749.out GE759.out) hb);clear HO717;clear HO719;clear HO722;clear HO726;clear HO728;clear HO731;clear HO737;clear HO743;clear HO746;clear HO752;clear HO757;clear HO762;clear HO768;clear HO772;clear HO782;clear HO786;clear BK734;clear BK739;clear BK749;clear BK759;clear HB;have HO717:=n0_;have HO719:=n1_;have HO722:=n2_;have HO726:=n3_;have HO728:=n4_;have HO731:=n5_;have HO737:=n6_;have HO743:=n7_;have HO746:=n8_;have HO752:=n9_;have HO757:=n10_;have HO762:=n11_;have HO768:=n12_;have HO772:=n13_;have HO782:=n14_;have HO786:=n15_;have BK734:=n16_;have BK739:=n17_;have BK749:=n18_;have BK759:=n19_;have HB:=n20_;clear n0_ n1_ n2_ n3_ n4_ n5_ n6_ n7_ n8_ n9_ n10_ n11_ n12_ n13_ n14_ n15_ n16_ n17_ n18_ n19_ n20_;(try clear hb)))
                  go_meet
                  case rel=>exact ⟨_,(!t793),(z3_),H',⟨z16_ HJ2.out⟩,⟨z27_ HO717.out⟩,⟨z27_ HO719.out⟩,⟨z27_ HO722.out⟩,⟨z46_ HO737.out⟩,⟨z47_ HO757.out⟩,⟨z2_ BK734.out⟩,⟨z2_ BK739.out⟩,⟨z2_ BK749.out⟩,⟨z2_ BK759.out⟩,⟨z9_ HB.out GE734.out GE739.out GE749.out GE759.out⟩⟩
                 ·rw [if_neg c125] at H
                  have c125b0:(t738 == 0)=false:=beq_eq_false_iff_ne.mpr c125
                  have c125b1:(t738 != 0)=true:=bne_iff_ne.mpr c125
                  have H':=aM H
                  clear H
                  have hnb137:=NB759_734.out
                  have hnc137:=NB734_759.out
                  have hnb138:=NB759_739.out
                  have hnc138:=NB739_759.out
                  have hnb139:=NB759_749.out
                  have hnc139:=NB749_759.out
                  have ⟨hcz140_0,hcz140_1,hfz140_0,hfz140_1⟩:=cz2_ BK759.out
                  have hnb141:=NB739_734.out
                  have hnc141:=NB734_739.out
                  have hnb142:=NB739_749.out
                  have hnc142:=NB749_739.out
                  have ⟨hcz143_0,hcz143_1,hfz143_0,hfz143_1⟩:=cz2_ BK739.out
                  go_wp2
                  go_meet
                  case rel=>exact ⟨_,(false),(z3_),H',⟨z16_ HJ2.out⟩,⟨z27_ HO717.out⟩,⟨z27_ HO719.out⟩,⟨z27_ HO722.out⟩,⟨z46_ HO737.out⟩,⟨z47_ HO757.out⟩,⟨z2_ BK734.out⟩,⟨z2_ BK739.out⟩,⟨z2_ BK749.out⟩,⟨z2_ BK759.out⟩,⟨z9_ HB.out GE734.out GE739.out GE749.out GE759.out⟩⟩
               ·rw [if_neg c100] at H
                have c100b0:(t753.toList == ([]:List UInt8))=false:=beq_eq_false_iff_ne.mpr c100
                have c100b1:(t753.toList != ([]:List UInt8))=true:=bne_iff_ne.mpr c100
                (first | rw [c100b0] | (simp only [i64_w,i32_w];rw [c100b0]) | skip)
                replace H:=bS H
                obtain ⟨⟨t794,t797⟩,A1440,H⟩:=H
                replace H:((Y6.f kj2 t794 t750).bind fun t798=>(if t798=true then (if t758=0 then ((Y9.f kj2 t755).bind fun t799=>(if t799.toList=t754.toList then (if t738=0 then ((Y4.f kj2 t735 t732 t733).bind fun t800=>(Y0.j1 kj2 t714 t715 t720 (!t800))) else (Y0.j1 kj2 t714 t715 t720 false)) else (none))) else (if t738=0 then ((Y4.f kj2 t735 t732 t733).bind fun t801=>(Y0.j1 kj2 t714 t715 t720 (!t801))) else (Y0.j1 kj2 t714 t715 t720 false))) else (none)))=some r:=H
                have A144:=aM A1440
                clear A1440
                replace H:=bS H
                obtain ⟨t798,A1450,H⟩:=H
                replace H:(if t798=true then (if t758=0 then ((Y9.f kj2 t755).bind fun t799=>(if t799.toList=t754.toList then (if t738=0 then ((Y4.f kj2 t735 t732 t733).bind fun t800=>(Y0.j1 kj2 t714 t715 t720 (!t800))) else (Y0.j1 kj2 t714 t715 t720 false)) else (none))) else (if t738=0 then ((Y4.f kj2 t735 t732 t733).bind fun t801=>(Y0.j1 kj2 t714 t715 t720 (!t801))) else (Y0.j1 kj2 t714 t715 t720 false))) else (none))=some r:=H
                have A145:=aM A1450
                clear A1450
                by_cases c146:t798=true
                ·subst c146
                 have H1:(if t758=0 then ((Y9.f kj2 t755).bind fun t799=>(if t799.toList=t754.toList then (if t738=0 then ((Y4.f kj2 t735 t732 t733).bind fun t800=>(Y0.j1 kj2 t714 t715 t720 (!t800))) else (Y0.j1 kj2 t714 t715 t720 false)) else (none))) else (if t738=0 then ((Y4.f kj2 t735 t732 t733).bind fun t801=>(Y0.j1 kj2 t714 t715 t720 (!t801))) else (Y0.j1 kj2 t714 t715 t720 false)))=some r:=by rw [if_pos rfl] at H;exact H
                 clear H
                 have H:=H1
                 clear H1
                 by_cases c147:t758=0
                 ·rw [if_pos c147] at H
                  have c147b0:(t758 == 0)=true:=beq_iff_eq.mpr c147
                  have c147b1:(t758 != 0)=false:=bne_eq_false_iff_eq.mpr c147
                  clear c147
                  replace H:=bS H
                  obtain ⟨t799,A1480,H⟩:=H
                  replace H:(if t799.toList=t754.toList then (if t738=0 then ((Y4.f kj2 t735 t732 t733).bind fun t800=>(Y0.j1 kj2 t714 t715 t720 (!t800))) else (Y0.j1 kj2 t714 t715 t720 false)) else (none))=some r:=H
                  have A148:=aM A1480
                  clear A1480
                  by_cases c149:t799.toList=t754.toList
                  ·rw [if_pos c149] at H
                   have c149b0:(t799.toList == t754.toList)=true:=beq_iff_eq.mpr c149
                   have c149b1:(t799.toList != t754.toList)=false:=bne_eq_false_iff_eq.mpr c149
                   clear c149
                   by_cases c150:t738=0
                   ·rw [if_pos c150] at H
                    have c150b0:(t738 == 0)=true:=beq_iff_eq.mpr c150
                    have c150b1:(t738 != 0)=false:=bne_eq_false_iff_eq.mpr c150
                    clear c150
                    replace H:=bS H
                    obtain ⟨t800,A1510,H⟩:=H
                    replace H:(Y0.j1 kj2 t714 t715 t720 (!t800))=some r:=H
                    have A151:=aM A1510
                    clear A1510
                    have H':=aM H
                    clear H
                    go_wp2_with (first | (go_at_call 29;(with_reducible refine (Y20.calls kj2 t753 t794 t797 _ A144.out).mono ?_);rintro e w152 ⟨v795,rfl,ho0,hb⟩;have n0_:=aM (Kd.R_elder' (z0_ HO717.out) (Kd.R_base ho0) hb);have n1_:=aM (Kd.R_elder' (z0_ HO719.out) (Kd.R_base ho0) hb);have n2_:=aM (Kd.R_elder' (z0_ HO722.out) (Kd.R_base ho0) hb);have n3_:=aM (Kd.R_elder' (z0_ HO726.out) (Kd.R_base ho0) hb);have n4_:=aM (Kd.R_elder' (z0_ HO728.out) (Kd.R_base ho0) hb);have n5_:=aM (Kd.R_elder' (z0_ HO731.out) (Kd.R_base ho0) hb);have n6_:=aM (Kd.R_elder' (z0_ HO737.out) (Kd.R_base ho0) hb);have n7_:=aM (Kd.R_elder' (z0_ HO743.out) (Kd.R_base ho0) hb);have n8_:=aM (Kd.R_elder' (z0_ HO746.out) (Kd.R_base ho0) hb);have n9_:=aM (Kd.R_elder' (z0_ HO752.out) (Kd.R_base ho0) hb);have n10_:=aM (Kd.R_elder' (z0_ HO757.out) (Kd.R_base ho0) hb);have n11_:=aM (Kd.R_elder' (z0_ HO762.out) (Kd.R_base ho0) hb);have n12_:=aM (Kd.R_elder' (z0_ HO768.out) (Kd.R_base ho0) hb);have n13_:=aM (Kd.R_elder' (z0_ HO772.out) (Kd.R_base ho0) hb);have n14_:=aM (Kd.R_elder' (z0_ HO782.out) (Kd.R_base ho0) hb);have n15_:=aM (Kd.R_elder' (z0_ HO786.out) (Kd.R_base ho0) hb);have n16_:=aM (Kd.R_lower (Kd.R_newB (Kd.R_newB (Kd.R_new' (Kd.R_new' (Kd.R_new' (Kd.R_new' (Kd.R_new' (Kd.R_new' (Kd.R_new' (Kd.R_new' (Kd.R_new' (Kd.R_new' (Kd.R_new' (Kd.R_new' (Kd.R_new' (Kd.R_new' (Kd.R_new' (Kd.R_new' ho0 (Kd.R_lt (z0_ HO717.out))) (Kd.R_lt (z0_ HO719.out))) (Kd.R_lt (z0_ HO722.out))) (Kd.R_lt (z0_ HO726.out))) (Kd.R_lt (z0_ HO728.out))) (Kd.R_lt (z0_ HO731.out))) (Kd.R_lt (z0_ HO737.out))) (Kd.R_lt (z0_ HO743.out))) (Kd.R_lt (z0_ HO746.out))) (Kd.R_lt (z0_ HO752.out))) (Kd.R_lt (z0_ HO757.out))) (Kd.R_lt (z0_ HO762.out))) (Kd.R_lt (z0_ HO768.out))) (Kd.R_lt (z0_ HO772.out))) (Kd.R_lt (z0_ HO782.out))) (Kd.R_lt (z0_ HO786.out))) (g:=gb734) (o:=.cells #[.int .i64 t732,.int .i64 t733] 49 (0,0)) (z2_ BK734.out)) (g:=gb749) (o:=.cells #[.int .i64 t747,.int .i64 t748] 49 (0,0)) (z2_ BK749.out)) (below_size (z9_ HB.out GE734.out GE739.out GE749.out GE759.out)));have n17_:=aM (blkB_ BK734.out hb);have n18_:=aM (blkB_ BK739.out hb);have n19_:=aM (blkB_ BK749.out hb);have n20_:=aM (blkB_ BK759.out hb);have n21_:=aM (below_step (z9_ HB.out GE734.out GE739.out GE749.out GE759.out) hb);clear HO717;clear HO719;clear HO722;clear HO726;clear HO728;clear HO731;clear HO737;clear HO743;clear HO746;clear HO752;clear HO757;clear HO762;clear HO768;clear HO772;clear HO782;clear HO786;clear BK734;clear BK739;clear BK749;clear BK759;clear HB;have HO717:=n0_;have HO719:=n1_;have HO722:=n2_;have HO726:=n3_;have HO728:=n4_;have HO731:=n5_;have HO737:=n6_;have HO743:=n7_;have HO746:=n8_;have HO752:=n9_;have HO757:=n10_;have HO762:=n11_;have HO768:=n12_;have HO772:=n13_;have HO782:=n14_;have HO786:=n15_;have HO796:=n16_;have BK734:=n17_;have BK739:=n18_;have BK749:=n19_;have BK759:=n20_;have HB:=n21_;clear n0_ n1_ n2_ n3_ n4_ n5_ n6_ n7_ n8_ n9_ n10_ n11_ n12_ n13_ n14_ n15_ n16_ n17_ n18_ n19_ n20_ n21_;(try clear hb);(try clear hb2);(try clear hk);(try clear hi);(try clear ho0);obtain ⟨Ao153,co153,eo153⟩:=Kd.R_slice HO796.out;subst eo153) | (go_at_call 30;(with_reducible refine (Y6.calls kj2 _ _ t794 _ _ t750 true _ ?s1 ?s2 ?s3 ?s4 A145.out).mono ?_);(case s1=>repeat (first | exact (Kd.R_reads' HO796.out).2.2 | (with_reducible refine Kd.C_alloc ?_ _) | (with_reducible refine Kd.C_drewN ?_ _) | (with_reducible refine Kd.C_drew ?_)));(case s2=>exact (Kd.R_reads' HO796.out).2.1);(case s3=>repeat (first | exact (Kd.R_reads' HO752.out).2.2 | (with_reducible refine Kd.C_alloc ?_ _) | (with_reducible refine Kd.C_drewN ?_ _) | (with_reducible refine Kd.C_drew ?_)));(case s4=>exact (Kd.R_reads' HO752.out).2.1);rintro e w' ⟨rfl,⟨nd,rfl⟩⟩;have hnb154:=NB759_734.out;have hnc154:=NB734_759.out;have hnb155:=NB759_739.out;have hnc155:=NB739_759.out;have hnb156:=NB759_749.out;have hnc156:=NB749_759.out;have ⟨hcz157_0,hcz157_1,hfz157_0,hfz157_1⟩:=cz2_ BK759.out) | (go_at_call 27;(with_reducible refine (Y9.calls kj2 _ _ t755 t799 _ ?s1 ?s2 A148.out).mono ?_);(case s1=>repeat (first | exact (Kd.R_reads' HO757.out).2.2 | (with_reducible refine Kd.C_alloc ?_ _) | (with_reducible refine Kd.C_drewN ?_ _) | (with_reducible refine Kd.C_drew ?_)));(case s2=>exact (Kd.R_reads' HO757.out).2.1);rintro e w158 ⟨rfl,hb⟩;have n0_:=aM (Kd.R_below (z0_ HO717.out) hb);have n1_:=aM (Kd.R_below (z0_ HO719.out) hb);have n2_:=aM (Kd.R_below (z0_ HO722.out) hb);have n3_:=aM (Kd.R_below (z0_ HO726.out) hb);have n4_:=aM (Kd.R_below (z0_ HO728.out) hb);have n5_:=aM (Kd.R_below (z0_ HO731.out) hb);have n6_:=aM (Kd.R_below (z0_ HO737.out) hb);have n7_:=aM (Kd.R_below (z0_ HO743.out) hb);have n8_:=aM (Kd.R_below (z0_ HO746.out) hb);have n9_:=aM (Kd.R_below (z0_ HO752.out) hb);have n10_:=aM (Kd.R_below (z0_ HO757.out) hb);have n11_:=aM (Kd.R_below (z0_ HO762.out) hb);have n12_:=aM (Kd.R_below (z0_ HO768.out) hb);have n13_:=aM (Kd.R_below (z0_ HO772.out) hb);have n14_:=aM (Kd.R_below (z0_ HO782.out) hb);have n15_:=aM (Kd.R_below (z0_ HO786.out) hb);have n16_:=aM (Kd.R_below (z0_ HO796.out) hb);have n17_:=aM (blkB_ BK734.out hb);have n18_:=aM (blkB_ BK739.out hb);have n19_:=aM (blkB_ BK749.out hb);have n20_:=aM (blkB_ BK759.out hb);have n21_:=aM (below_step (z9_ HB.out GE734.out GE739.out GE749.out GE759.out) hb);clear HO717;clear HO719;clear HO722;clear HO726;clear HO728;clear HO731;clear HO737;clear HO743;clear HO746;clear HO752;clear HO757;clear HO762;clear HO768;clear HO772;clear HO782;clear HO786;clear HO796;clear BK734;clear BK739;clear BK749;clear BK759;clear HB;have HO717:=n0_;have HO719:=n1_;have HO722:=n2_;have HO726:=n3_;have HO728:=n4_;have HO731:=n5_;have HO737:=n6_;have HO743:=n7_;have HO746:=n8_;have HO752:=n9_;have HO757:=n10_;have HO762:=n11_;have HO768:=n12_;have HO772:=n13_;have HO782:=n14_;have HO786:=n15_;have HO796:=n16_;have BK734:=n17_;have BK739:=n18_;have BK749:=n19_;have BK759:=n20_;have HB:=n21_;clear n0_ n1_ n2_ n3_ n4_ n5_ n6_ n7_ n8_ n9_ n10_ n11_ n12_ n13_ n14_ n15_ n16_ n17_ n18_ n19_ n20_ n21_;(try clear hb);have hnb159:=NB739_734.out;have hnc159:=NB734_739.out;have hnb160:=NB739_749.out;have hnc160:=NB749_739.out;have ⟨hcz161_0,hcz161_1,hfz161_0,hfz161_1⟩:=cz2_ BK739.out;have hnb162:=NB734_749.out;have hnc162:=NB749_734.out;have ⟨hcz163_0,hcz163_1,hfz163_0,hfz163_1⟩:=cz2_ BK734.out) | (go_at_call 37;(with_reducible refine (Y4.calls kj2 _ _ t735 t732 t733 t800 _ ?s1 ?s2 A151.out).mono ?_);(case s1=>repeat (first | exact (Kd.R_reads' HO737.out).2.2 | (with_reducible refine Kd.C_alloc ?_ _) | (with_reducible refine Kd.C_drewN ?_ _) | (with_reducible refine Kd.C_drew ?_)));(case s2=>exact (Kd.R_reads' HO737.out).2.1);rintro e w164 ⟨rfl,hb⟩;have n0_:=aM (Kd.R_below (z0_ HO717.out) hb);have n1_:=aM (Kd.R_below (z0_ HO719.out) hb);have n2_:=aM (Kd.R_below (z0_ HO722.out) hb);have n3_:=aM (Kd.R_below (z0_ HO726.out) hb);have n4_:=aM (Kd.R_below (z0_ HO728.out) hb);have n5_:=aM (Kd.R_below (z0_ HO731.out) hb);have n6_:=aM (Kd.R_below (z0_ HO737.out) hb);have n7_:=aM (Kd.R_below (z0_ HO743.out) hb);have n8_:=aM (Kd.R_below (z0_ HO746.out) hb);have n9_:=aM (Kd.R_below (z0_ HO752.out) hb);have n10_:=aM (Kd.R_below (z0_ HO757.out) hb);have n11_:=aM (Kd.R_below (z0_ HO762.out) hb);have n12_:=aM (Kd.R_below (z0_ HO768.out) hb);have n13_:=aM (Kd.R_below (z0_ HO772.out) hb);have n14_:=aM (Kd.R_below (z0_ HO782.out) hb);have n15_:=aM (Kd.R_below (z0_ HO786.out) hb);have n16_:=aM (Kd.R_below (z0_ HO796.out) hb);have n17_:=aM (blkB_ BK734.out hb);have n18_:=aM (blkB_ BK739.out hb);have n19_:=aM (blkB_ BK749.out hb);have n20_:=aM (blkB_ BK759.out hb);have n21_:=aM (below_step (z9_ HB.out GE734.out GE739.out GE749.out GE759.out) hb);clear HO717;clear HO719;clear HO722;clear HO726;clear HO728;clear HO731;clear HO737;clear HO743;clear HO746;clear HO752;clear HO757;clear HO762;clear HO768;clear HO772;clear HO782;clear HO786;clear HO796;clear BK734;clear BK739;clear BK749;clear BK759;clear HB;have HO717:=n0_;have HO719:=n1_;have HO722:=n2_;have HO726:=n3_;have HO728:=n4_;have HO731:=n5_;have HO737:=n6_;have HO743:=n7_;have HO746:=n8_;have HO752:=n9_;have HO757:=n10_;have HO762:=n11_;have HO768:=n12_;have HO772:=n13_;have HO782:=n14_;have HO786:=n15_;have HO796:=n16_;have BK734:=n17_;have BK739:=n18_;have BK749:=n19_;have BK759:=n20_;have HB:=n21_;clear n0_ n1_ n2_ n3_ n4_ n5_ n6_ n7_ n8_ n9_ n10_ n11_ n12_ n13_ n14_ n15_ n16_ n17_ n18_ n19_ n20_ n21_;(try clear hb)))
                    go_meet
                    case rel=>exact ⟨_,(!t800),(z3_),H',⟨z16_ HJ2.out⟩,⟨z28_ HO717.out⟩,⟨z28_ HO719.out⟩,⟨z28_ HO722.out⟩,⟨z48_ HO737.out⟩,⟨z49_ HO757.out⟩,⟨z2_ BK734.out⟩,⟨z2_ BK739.out⟩,⟨z2_ BK749.out⟩,⟨z2_ BK759.out⟩,⟨z9_ HB.out GE734.out GE739.out GE749.out GE759.out⟩⟩
                   ·rw [if_neg c150] at H
                    have c150b0:(t738 == 0)=false:=beq_eq_false_iff_ne.mpr c150
                    have c150b1:(t738 != 0)=true:=bne_iff_ne.mpr c150
                    have H':=aM H
                    clear H
                    go_wp2_with (first | (go_at_call 29;(with_reducible refine (Y20.calls kj2 t753 t794 t797 _ A144.out).mono ?_);rintro e w165 ⟨v795,rfl,ho0,hb⟩;have n0_:=aM (Kd.R_elder' (z0_ HO717.out) (Kd.R_base ho0) hb);have n1_:=aM (Kd.R_elder' (z0_ HO719.out) (Kd.R_base ho0) hb);have n2_:=aM (Kd.R_elder' (z0_ HO722.out) (Kd.R_base ho0) hb);have n3_:=aM (Kd.R_elder' (z0_ HO726.out) (Kd.R_base ho0) hb);have n4_:=aM (Kd.R_elder' (z0_ HO728.out) (Kd.R_base ho0) hb);have n5_:=aM (Kd.R_elder' (z0_ HO731.out) (Kd.R_base ho0) hb);have n6_:=aM (Kd.R_elder' (z0_ HO737.out) (Kd.R_base ho0) hb);have n7_:=aM (Kd.R_elder' (z0_ HO743.out) (Kd.R_base ho0) hb);have n8_:=aM (Kd.R_elder' (z0_ HO746.out) (Kd.R_base ho0) hb);have n9_:=aM (Kd.R_elder' (z0_ HO752.out) (Kd.R_base ho0) hb);have n10_:=aM (Kd.R_elder' (z0_ HO757.out) (Kd.R_base ho0) hb);have n11_:=aM (Kd.R_elder' (z0_ HO762.out) (Kd.R_base ho0) hb);have n12_:=aM (Kd.R_elder' (z0_ HO768.out) (Kd.R_base ho0) hb);have n13_:=aM (Kd.R_elder' (z0_ HO772.out) (Kd.R_base ho0) hb);have n14_:=aM (Kd.R_elder' (z0_ HO782.out) (Kd.R_base ho0) hb);have n15_:=aM (Kd.R_elder' (z0_ HO786.out) (Kd.R_base ho0) hb);have n16_:=aM (Kd.R_lower (Kd.R_newB (Kd.R_newB (Kd.R_new' (Kd.R_new' (Kd.R_new' (Kd.R_new' (Kd.R_new' (Kd.R_new' (Kd.R_new' (Kd.R_new' (Kd.R_new' (Kd.R_new' (Kd.R_new' (Kd.R_new' (Kd.R_new' (Kd.R_new' (Kd.R_new' (Kd.R_new' ho0 (Kd.R_lt (z0_ HO717.out))) (Kd.R_lt (z0_ HO719.out))) (Kd.R_lt (z0_ HO722.out))) (Kd.R_lt (z0_ HO726.out))) (Kd.R_lt (z0_ HO728.out))) (Kd.R_lt (z0_ HO731.out))) (Kd.R_lt (z0_ HO737.out))) (Kd.R_lt (z0_ HO743.out))) (Kd.R_lt (z0_ HO746.out))) (Kd.R_lt (z0_ HO752.out))) (Kd.R_lt (z0_ HO757.out))) (Kd.R_lt (z0_ HO762.out))) (Kd.R_lt (z0_ HO768.out))) (Kd.R_lt (z0_ HO772.out))) (Kd.R_lt (z0_ HO782.out))) (Kd.R_lt (z0_ HO786.out))) (g:=gb734) (o:=.cells #[.int .i64 t732,.int .i64 t733] 49 (0,0)) (z2_ BK734.out)) (g:=gb749) (o:=.cells #[.int .i64 t747,.int .i64 t748] 49 (0,0)) (z2_ BK749.out)) (below_size (z9_ HB.out GE734.out GE739.out GE749.out GE759.out)));have n17_:=aM (blkB_ BK734.out hb);have n18_:=aM (blkB_ BK739.out hb);have n19_:=aM (blkB_ BK749.out hb);have n20_:=aM (blkB_ BK759.out hb);have n21_:=aM (below_step (z9_ HB.out GE734.out GE739.out GE749.out GE759.out) hb);clear HO717;clear HO719;clear HO722;clear HO726;clear HO728;clear HO731;clear HO737;clear HO743;clear HO746;clear HO752;clear HO757;clear HO762;clear HO768;clear HO772;clear HO782;clear HO786;clear BK734;clear BK739;clear BK749;clear BK759;clear HB;have HO717:=n0_;have HO719:=n1_;have HO722:=n2_;have HO726:=n3_;have HO728:=n4_;have HO731:=n5_;have HO737:=n6_;have HO743:=n7_;have HO746:=n8_;have HO752:=n9_;have HO757:=n10_;have HO762:=n11_;have HO768:=n12_;have HO772:=n13_;have HO782:=n14_;have HO786:=n15_;have HO796:=n16_;have BK734:=n17_;have BK739:=n18_;have BK749:=n19_;have BK759:=n20_;have HB:=n21_;clear n0_ n1_ n2_ n3_ n4_ n5_ n6_ n7_ n8_ n9_ n10_ n11_ n12_ n13_ n14_ n15_ n16_ n17_ n18_ n19_ n20_ n21_;(try clear hb);(try clear hb2);(try clear hk);(try clear hi);(try clear ho0);obtain ⟨Ao166,co166,eo166⟩:=Kd.R_slice HO796.out;subst eo166) | (go_at_call 30;(with_reducible refine (Y6.calls kj2 _ _ t794 _ _ t750 true _ ?s1 ?s2 ?s3 ?s4 A145.out).mono ?_);(case s1=>repeat (first | exact (Kd.R_reads' HO796.out).2.2 | (with_reducible refine Kd.C_alloc ?_ _) | (with_reducible refine Kd.C_drewN ?_ _) | (with_reducible refine Kd.C_drew ?_)));(case s2=>exact (Kd.R_reads' HO796.out).2.1);(case s3=>repeat (first | exact (Kd.R_reads' HO752.out).2.2 | (with_reducible refine Kd.C_alloc ?_ _) | (with_reducible refine Kd.C_drewN ?_ _) | (with_reducible refine Kd.C_drew ?_)));(case s4=>exact (Kd.R_reads' HO752.out).2.1);rintro e w' ⟨rfl,⟨nd,rfl⟩⟩;have hnb167:=NB759_734.out;have hnc167:=NB734_759.out;have hnb168:=NB759_739.out;have hnc168:=NB739_759.out;have hnb169:=NB759_749.out;have hnc169:=NB749_759.out;have ⟨hcz170_0,hcz170_1,hfz170_0,hfz170_1⟩:=cz2_ BK759.out) | (go_at_call 27;(with_reducible refine (Y9.calls kj2 _ _ t755 t799 _ ?s1 ?s2 A148.out).mono ?_);(case s1=>repeat (first | exact (Kd.R_reads' HO757.out).2.2 | (with_reducible refine Kd.C_alloc ?_ _) | (with_reducible refine Kd.C_drewN ?_ _) | (with_reducible refine Kd.C_drew ?_)));(case s2=>exact (Kd.R_reads' HO757.out).2.1);rintro e w171 ⟨rfl,hb⟩;have n0_:=aM (Kd.R_below (z0_ HO717.out) hb);have n1_:=aM (Kd.R_below (z0_ HO719.out) hb);have n2_:=aM (Kd.R_below (z0_ HO722.out) hb);have n3_:=aM (Kd.R_below (z0_ HO726.out) hb);have n4_:=aM (Kd.R_below (z0_ HO728.out) hb);have n5_:=aM (Kd.R_below (z0_ HO731.out) hb);have n6_:=aM (Kd.R_below (z0_ HO737.out) hb);have n7_:=aM (Kd.R_below (z0_ HO743.out) hb);have n8_:=aM (Kd.R_below (z0_ HO746.out) hb);have n9_:=aM (Kd.R_below (z0_ HO752.out) hb);have n10_:=aM (Kd.R_below (z0_ HO757.out) hb);have n11_:=aM (Kd.R_below (z0_ HO762.out) hb);have n12_:=aM (Kd.R_below (z0_ HO768.out) hb);have n13_:=aM (Kd.R_below (z0_ HO772.out) hb);have n14_:=aM (Kd.R_below (z0_ HO782.out) hb);have n15_:=aM (Kd.R_below (z0_ HO786.out) hb);have n16_:=aM (Kd.R_below (z0_ HO796.out) hb);have n17_:=aM (blkB_ BK734.out hb);have n18_:=aM (blkB_ BK739.out hb);have n19_:=aM (blkB_ BK749.out hb);have n20_:=aM (blkB_ BK759.out hb);have n21_:=aM (below_step (z9_ HB.out GE734.out GE739.out GE749.out GE759.out) hb);clear HO717;clear HO719;clear HO722;clear HO726;clear HO728;clear HO731;clear HO737;clear HO743;clear HO746;clear HO752;clear HO757;clear HO762;clear HO768;clear HO772;clear HO782;clear HO786;clear HO796;clear BK734;clear BK739;clear BK749;clear BK759;clear HB;have HO717:=n0_;have HO719:=n1_;have HO722:=n2_;have HO726:=n3_;have HO728:=n4_;have HO731:=n5_;have HO737:=n6_;have HO743:=n7_;have HO746:=n8_;have HO752:=n9_;have HO757:=n10_;have HO762:=n11_;have HO768:=n12_;have HO772:=n13_;have HO782:=n14_;have HO786:=n15_;have HO796:=n16_;have BK734:=n17_;have BK739:=n18_;have BK749:=n19_;have BK759:=n20_;have HB:=n21_;clear n0_ n1_ n2_ n3_ n4_ n5_ n6_ n7_ n8_ n9_ n10_ n11_ n12_ n13_ n14_ n15_ n16_ n17_ n18_ n19_ n20_ n21_;(try clear hb);have hnb172:=NB739_734.out;have hnc172:=NB734_739.out;have hnb173:=NB739_749.out;have hnc173:=NB749_739.out;have ⟨hcz174_0,hcz174_1,hfz174_0,hfz174_1⟩:=cz2_ BK739.out))
                    go_meet
                    case rel=>exact ⟨_,(false),(z3_),H',⟨z16_ HJ2.out⟩,⟨z28_ HO717.out⟩,⟨z28_ HO719.out⟩,⟨z28_ HO722.out⟩,⟨z48_ HO737.out⟩,⟨z49_ HO757.out⟩,⟨z2_ BK734.out⟩,⟨z2_ BK739.out⟩,⟨z2_ BK749.out⟩,⟨z2_ BK759.out⟩,⟨z9_ HB.out GE734.out GE739.out GE749.out GE759.out⟩⟩
                  ·rw [if_neg c149] at H
                   exact nO H
                 ·rw [if_neg c147] at H
                  have c147b0:(t758 == 0)=false:=beq_eq_false_iff_ne.mpr c147
                  have c147b1:(t758 != 0)=true:=bne_iff_ne.mpr c147
                  by_cases c175:t738=0
                  ·rw [if_pos c175] at H
                   have c175b0:(t738 == 0)=true:=beq_iff_eq.mpr c175
                   have c175b1:(t738 != 0)=false:=bne_eq_false_iff_eq.mpr c175
                   clear c175
                   replace H:=bS H
                   obtain ⟨t801,A1760,H⟩:=H
                   replace H:(Y0.j1 kj2 t714 t715 t720 (!t801))=some r:=H
                   have A176:=aM A1760
                   clear A1760
                   have H':=aM H
                   clear H
                   go_wp2_with (first | (go_at_call 29;(with_reducible refine (Y20.calls kj2 t753 t794 t797 _ A144.out).mono ?_);rintro e w177 ⟨v795,rfl,ho0,hb⟩;have n0_:=aM (Kd.R_elder' (z0_ HO717.out) (Kd.R_base ho0) hb);have n1_:=aM (Kd.R_elder' (z0_ HO719.out) (Kd.R_base ho0) hb);have n2_:=aM (Kd.R_elder' (z0_ HO722.out) (Kd.R_base ho0) hb);have n3_:=aM (Kd.R_elder' (z0_ HO726.out) (Kd.R_base ho0) hb);have n4_:=aM (Kd.R_elder' (z0_ HO728.out) (Kd.R_base ho0) hb);have n5_:=aM (Kd.R_elder' (z0_ HO731.out) (Kd.R_base ho0) hb);have n6_:=aM (Kd.R_elder' (z0_ HO737.out) (Kd.R_base ho0) hb);have n7_:=aM (Kd.R_elder' (z0_ HO743.out) (Kd.R_base ho0) hb);have n8_:=aM (Kd.R_elder' (z0_ HO746.out) (Kd.R_base ho0) hb);have n9_:=aM (Kd.R_elder' (z0_ HO752.out) (Kd.R_base ho0) hb);have n10_:=aM (Kd.R_elder' (z0_ HO757.out) (Kd.R_base ho0) hb);have n11_:=aM (Kd.R_elder' (z0_ HO762.out) (Kd.R_base ho0) hb);have n12_:=aM (Kd.R_elder' (z0_ HO768.out) (Kd.R_base ho0) hb);have n13_:=aM (Kd.R_elder' (z0_ HO772.out) (Kd.R_base ho0) hb);have n14_:=aM (Kd.R_elder' (z0_ HO782.out) (Kd.R_base ho0) hb);have n15_:=aM (Kd.R_elder' (z0_ HO786.out) (Kd.R_base ho0) hb);have n16_:=aM (Kd.R_lower (Kd.R_newB (Kd.R_newB (Kd.R_new' (Kd.R_new' (Kd.R_new' (Kd.R_new' (Kd.R_new' (Kd.R_new' (Kd.R_new' (Kd.R_new' (Kd.R_new' (Kd.R_new' (Kd.R_new' (Kd.R_new' (Kd.R_new' (Kd.R_new' (Kd.R_new' (Kd.R_new' ho0 (Kd.R_lt (z0_ HO717.out))) (Kd.R_lt (z0_ HO719.out))) (Kd.R_lt (z0_ HO722.out))) (Kd.R_lt (z0_ HO726.out))) (Kd.R_lt (z0_ HO728.out))) (Kd.R_lt (z0_ HO731.out))) (Kd.R_lt (z0_ HO737.out))) (Kd.R_lt (z0_ HO743.out))) (Kd.R_lt (z0_ HO746.out))) (Kd.R_lt (z0_ HO752.out))) (Kd.R_lt (z0_ HO757.out))) (Kd.R_lt (z0_ HO762.out))) (Kd.R_lt (z0_ HO768.out))) (Kd.R_lt (z0_ HO772.out))) (Kd.R_lt (z0_ HO782.out))) (Kd.R_lt (z0_ HO786.out))) (g:=gb734) (o:=.cells #[.int .i64 t732,.int .i64 t733] 49 (0,0)) (z2_ BK734.out)) (g:=gb749) (o:=.cells #[.int .i64 t747,.int .i64 t748] 49 (0,0)) (z2_ BK749.out)) (below_size (z9_ HB.out GE734.out GE739.out GE749.out GE759.out)));have n17_:=aM (blkB_ BK734.out hb);have n18_:=aM (blkB_ BK739.out hb);have n19_:=aM (blkB_ BK749.out hb);have n20_:=aM (blkB_ BK759.out hb);have n21_:=aM (below_step (z9_ HB.out GE734.out GE739.out GE749.out GE759.out) hb);clear HO717;clear HO719;clear HO722;clear HO726;clear HO728;clear HO731;clear HO737;clear HO743;clear HO746;clear HO752;clear HO757;clear HO762;clear HO768;clear HO772;clear HO782;clear HO786;clear BK734;clear BK739;clear BK749;clear BK759;clear HB;have HO717:=n0_;have HO719:=n1_;have HO722:=n2_;have HO726:=n3_;have HO728:=n4_;have HO731:=n5_;have HO737:=n6_;have HO743:=n7_;have HO746:=n8_;have HO752:=n9_;have HO757:=n10_;have HO762:=n11_;have HO768:=n12_;have HO772:=n13_;have HO782:=n14_;have HO786:=n15_;have HO796:=n16_;have BK734:=n17_;have BK739:=n18_;have BK749:=n19_;have BK759:=n20_;have HB:=n21_;clear n0_ n1_ n2_ n3_ n4_ n5_ n6_ n7_ n8_ n9_ n10_ n11_ n12_ n13_ n14_ n15_ n16_ n17_ n18_ n19_ n20_ n21_;(try clear hb);(try clear hb2);(try clear hk);(try clear hi);(try clear ho0);obtain ⟨Ao178,co178,eo178⟩:=Kd.R_slice HO796.out;subst eo178) | (go_at_call 30;(with_reducible refine (Y6.calls kj2 _ _ t794 _ _ t750 true _ ?s1 ?s2 ?s3 ?s4 A145.out).mono ?_);(case s1=>repeat (first | exact (Kd.R_reads' HO796.out).2.2 | (with_reducible refine Kd.C_alloc ?_ _) | (with_reducible refine Kd.C_drewN ?_ _) | (with_reducible refine Kd.C_drew ?_)));(case s2=>exact (Kd.R_reads' HO796.out).2.1);(case s3=>repeat (first | exact (Kd.R_reads' HO752.out).2.2 | (with_reducible refine Kd.C_alloc ?_ _) | (with_reducible refine Kd.C_drewN ?_ _) | (with_reducible refine Kd.C_drew ?_)));(case s4=>exact (Kd.R_reads' HO752.out).2.1);rintro e w' ⟨rfl,⟨nd,rfl⟩⟩;have hnb179:=NB759_734.out;have hnc179:=NB734_759.out;have hnb180:=NB759_739.out;have hnc180:=NB739_759.out;have hnb181:=NB759_749.out;have hnc181:=NB749_759.out;have ⟨hcz182_0,hcz182_1,hfz182_0,hfz182_1⟩:=cz2_ BK759.out;have hnb183:=NB739_734.out;have hnc183:=NB734_739.out;have hnb184:=NB739_749.out;have hnc184:=NB749_739.out;have ⟨hcz185_0,hcz185_1,hfz185_0,hfz185_1⟩:=cz2_ BK739.out;have hnb186:=NB734_749.out;have hnc186:=NB749_734.out;have ⟨hcz187_0,hcz187_1,hfz187_0,hfz187_1⟩:=cz2_ BK734.out) | (go_at_call 37;(with_reducible refine (Y4.calls kj2 _ _ t735 t732 t733 t801 _ ?s1 ?s2 A176.out).mono ?_);(case s1=>repeat (first | exact (Kd.R_reads' HO737.out).2.2 | (with_reducible refine Kd.C_alloc ?_ _) | (with_reducible refine Kd.C_drewN ?_ _) | (with_reducible refine Kd.C_drew ?_)));(case s2=>exact (Kd.R_reads' HO737.out).2.1);rintro e w188 ⟨rfl,hb⟩;have n0_:=aM (Kd.R_below (z0_ HO717.out) hb);have n1_:=aM (Kd.R_below (z0_ HO719.out) hb);have n2_:=aM (Kd.R_below (z0_ HO722.out) hb);have n3_:=aM (Kd.R_below (z0_ HO726.out) hb);have n4_:=aM (Kd.R_below (z0_ HO728.out) hb);have n5_:=aM (Kd.R_below (z0_ HO731.out) hb);have n6_:=aM (Kd.R_below (z0_ HO737.out) hb);have n7_:=aM (Kd.R_below (z0_ HO743.out) hb);have n8_:=aM (Kd.R_below (z0_ HO746.out) hb);have n9_:=aM (Kd.R_below (z0_ HO752.out) hb);have n10_:=aM (Kd.R_below (z0_ HO757.out) hb);have n11_:=aM (Kd.R_below (z0_ HO762.out) hb);have n12_:=aM (Kd.R_below (z0_ HO768.out) hb);have n13_:=aM (Kd.R_below (z0_ HO772.out) hb);have n14_:=aM (Kd.R_below (z0_ HO782.out) hb);have n15_:=aM (Kd.R_below (z0_ HO786.out) hb);have n16_:=aM (Kd.R_below (z0_ HO796.out) hb);have n17_:=aM (blkB_ BK734.out hb);have n18_:=aM (blkB_ BK739.out hb);have n19_:=aM (blkB_ BK749.out hb);have n20_:=aM (blkB_ BK759.out hb);have n21_:=aM (below_step (z9_ HB.out GE734.out GE739.out GE749.out GE759.out) hb);clear HO717;clear HO719;clear HO722;clear HO726;clear HO728;clear HO731;clear HO737;clear HO743;clear HO746;clear HO752;clear HO757;clear HO762;clear HO768;clear HO772;clear HO782;clear HO786;clear HO796;clear BK734;clear BK739;clear BK749;clear BK759;clear HB;have HO717:=n0_;have HO719:=n1_;have HO722:=n2_;have HO726:=n3_;have HO728:=n4_;have HO731:=n5_;have HO737:=n6_;have HO743:=n7_;have HO746:=n8_;have HO752:=n9_;have HO757:=n10_;have HO762:=n11_;have HO768:=n12_;have HO772:=n13_;have HO782:=n14_;have HO786:=n15_;have HO796:=n16_;have BK734:=n17_;have BK739:=n18_;have BK749:=n19_;have BK759:=n20_;have HB:=n21_;clear n0_ n1_ n2_ n3_ n4_ n5_ n6_ n7_ n8_ n9_ n10_ n11_ n12_ n13_ n14_ n15_ n16_ n17_ n18_ n19_ n20_ n21_;(try clear hb)))
                   go_meet
                   case rel=>exact ⟨_,(!t801),(z3_),H',⟨z16_ HJ2.out⟩,⟨z28_ HO717.out⟩,⟨z28_ HO719.out⟩,⟨z28_ HO722.out⟩,⟨z48_ HO737.out⟩,⟨z49_ HO757.out⟩,⟨z2_ BK734.out⟩,⟨z2_ BK739.out⟩,⟨z2_ BK749.out⟩,⟨z2_ BK759.out⟩,⟨z9_ HB.out GE734.out GE739.out GE749.out GE759.out⟩⟩
                  ·rw [if_neg c175] at H
                   have c175b0:(t738 == 0)=false:=beq_eq_false_iff_ne.mpr c175
                   have c175b1:(t738 != 0)=true:=bne_iff_ne.mpr c175
                   have H':=aM H
                   clear H
                   go_wp2_with (first | (go_at_call 29;(with_reducible refine (Y20.calls kj2 t753 t794 t797 _ A144.out).mono ?_);rintro e w189 ⟨v795,rfl,ho0,hb⟩;have n0_:=aM (Kd.R_elder' (z0_ HO717.out) (Kd.R_base ho0) hb);have n1_:=aM (Kd.R_elder' (z0_ HO719.out) (Kd.R_base ho0) hb);have n2_:=aM (Kd.R_elder' (z0_ HO722.out) (Kd.R_base ho0) hb);have n3_:=aM (Kd.R_elder' (z0_ HO726.out) (Kd.R_base ho0) hb);have n4_:=aM (Kd.R_elder' (z0_ HO728.out) (Kd.R_base ho0) hb);have n5_:=aM (Kd.R_elder' (z0_ HO731.out) (Kd.R_base ho0) hb);have n6_:=aM (Kd.R_elder' (z0_ HO737.out) (Kd.R_base ho0) hb);have n7_:=aM (Kd.R_elder' (z0_ HO743.out) (Kd.R_base ho0) hb);have n8_:=aM (Kd.R_elder' (z0_ HO746.out) (Kd.R_base ho0) hb);have n9_:=aM (Kd.R_elder' (z0_ HO752.out) (Kd.R_base ho0) hb);have n10_:=aM (Kd.R_elder' (z0_ HO757.out) (Kd.R_base ho0) hb);have n11_:=aM (Kd.R_elder' (z0_ HO762.out) (Kd.R_base ho0) hb);have n12_:=aM (Kd.R_elder' (z0_ HO768.out) (Kd.R_base ho0) hb);have n13_:=aM (Kd.R_elder' (z0_ HO772.out) (Kd.R_base ho0) hb);have n14_:=aM (Kd.R_elder' (z0_ HO782.out) (Kd.R_base ho0) hb);have n15_:=aM (Kd.R_elder' (z0_ HO786.out) (Kd.R_base ho0) hb);have n16_:=aM (Kd.R_lower (Kd.R_newB (Kd.R_newB (Kd.R_new' (Kd.R_new' (Kd.R_new' (Kd.R_new' (Kd.R_new' (Kd.R_new' (Kd.R_new' (Kd.R_new' (Kd.R_new' (Kd.R_new' (Kd.R_new' (Kd.R_new' (Kd.R_new' (Kd.R_new' (Kd.R_new' (Kd.R_new' ho0 (Kd.R_lt (z0_ HO717.out))) (Kd.R_lt (z0_ HO719.out))) (Kd.R_lt (z0_ HO722.out))) (Kd.R_lt (z0_ HO726.out))) (Kd.R_lt (z0_ HO728.out))) (Kd.R_lt (z0_ HO731.out))) (Kd.R_lt (z0_ HO737.out))) (Kd.R_lt (z0_ HO743.out))) (Kd.R_lt (z0_ HO746.out))) (Kd.R_lt (z0_ HO752.out))) (Kd.R_lt (z0_ HO757.out))) (Kd.R_lt (z0_ HO762.out))) (Kd.R_lt (z0_ HO768.out))) (Kd.R_lt (z0_ HO772.out))) (Kd.R_lt (z0_ HO782.out))) (Kd.R_lt (z0_ HO786.out))) (g:=gb734) (o:=.cells #[.int .i64 t732,.int .i64 t733] 49 (0,0)) (z2_ BK734.out)) (g:=gb749) (o:=.cells #[.int .i64 t747,.int .i64 t748] 49 (0,0)) (z2_ BK749.out)) (below_size (z9_ HB.out GE734.out GE739.out GE749.out GE759.out)));have n17_:=aM (blkB_ BK734.out hb);have n18_:=aM (blkB_ BK739.out hb);have n19_:=aM (blkB_ BK749.out hb);have n20_:=aM (blkB_ BK759.out hb);have n21_:=aM (below_step (z9_ HB.out GE734.out GE739.out GE749.out GE759.out) hb);clear HO717;clear HO719;clear HO722;clear HO726;clear HO728;clear HO731;clear HO737;clear HO743;clear HO746;clear HO752;clear HO757;clear HO762;clear HO768;clear HO772;clear HO782;clear HO786;clear BK734;clear BK739;clear BK749;clear BK759;clear HB;have HO717:=n0_;have HO719:=n1_;have HO722:=n2_;have HO726:=n3_;have HO728:=n4_;have HO731:=n5_;have HO737:=n6_;have HO743:=n7_;have HO746:=n8_;have HO752:=n9_;have HO757:=n10_;have HO762:=n11_;have HO768:=n12_;have HO772:=n13_;have HO782:=n14_;have HO786:=n15_;have HO796:=n16_;have BK734:=n17_;have BK739:=n18_;have BK749:=n19_;have BK759:=n20_;have HB:=n21_;clear n0_ n1_ n2_ n3_ n4_ n5_ n6_ n7_ n8_ n9_ n10_ n11_ n12_ n13_ n14_ n15_ n16_ n17_ n18_ n19_ n20_ n21_;(try clear hb);(try clear hb2);(try clear hk);(try clear hi);(try clear ho0);obtain ⟨Ao190,co190,eo190⟩:=Kd.R_slice HO796.out;subst eo190) | (go_at_call 30;(with_reducible refine (Y6.calls kj2 _ _ t794 _ _ t750 true _ ?s1 ?s2 ?s3 ?s4 A145.out).mono ?_);(case s1=>repeat (first | exact (Kd.R_reads' HO796.out).2.2 | (with_reducible refine Kd.C_alloc ?_ _) | (with_reducible refine Kd.C_drewN ?_ _) | (with_reducible refine Kd.C_drew ?_)));(case s2=>exact (Kd.R_reads' HO796.out).2.1);(case s3=>repeat (first | exact (Kd.R_reads' HO752.out).2.2 | (with_reducible refine Kd.C_alloc ?_ _) | (with_reducible refine Kd.C_drewN ?_ _) | (with_reducible refine Kd.C_drew ?_)));(case s4=>exact (Kd.R_reads' HO752.out).2.1);rintro e w' ⟨rfl,⟨nd,rfl⟩⟩;have hnb191:=NB759_734.out;have hnc191:=NB734_759.out;have hnb192:=NB759_739.out;have hnc192:=NB739_759.out;have hnb193:=NB759_749.out;have hnc193:=NB749_759.out;have ⟨hcz194_0,hcz194_1,hfz194_0,hfz194_1⟩:=cz2_ BK759.out;have hnb195:=NB739_734.out;have hnc195:=NB734_739.out;have hnb196:=NB739_749.out;have hnc196:=NB749_739.out;have ⟨hcz197_0,hcz197_1,hfz197_0,hfz197_1⟩:=cz2_ BK739.out))
                   go_meet
                   case rel=>exact ⟨_,(false),(z3_),H',⟨z16_ HJ2.out⟩,⟨z28_ HO717.out⟩,⟨z28_ HO719.out⟩,⟨z28_ HO722.out⟩,⟨z48_ HO737.out⟩,⟨z49_ HO757.out⟩,⟨z2_ BK734.out⟩,⟨z2_ BK739.out⟩,⟨z2_ BK749.out⟩,⟨z2_ BK759.out⟩,⟨z9_ HB.out GE734.out GE739.out GE749.out GE759.out⟩⟩
                ·replace c146:=Bool.eq_false_iff.mpr c146
                 subst c146
                 have H1:(none)=some r:=by rw [if_neg (show ¬ (false=true) by decide)] at H;exact H
                 clear H
                 have H:=H1
                 clear H1
                 exact nO H
              case rest=>as_aux_lemma =>
               clear HC44
               try clear c1
               try clear p2
               try clear c3
               try clear c4
               try clear c10
               try clear c11
               try clear c12
               try clear c13
               try clear c14
               try clear c15
               try clear c16
               try clear c17
               try clear c18
               try clear c19
               try clear c30
               try clear c40
               try clear c41
               try clear c42
               try clear c100
               try clear c100b0
               try clear c100b1
               try clear c101
               try clear c101b0
               try clear c101b1
               try clear c103
               try clear c103b0
               try clear c103b1
               try clear c104
               try clear c104b0
               try clear c104b1
               try clear c106
               try clear c107
               try clear c108
               try clear c111
               try clear c112
               try clear c114
               try clear c117
               try clear c118
               try clear c119
               try clear c122
               try clear c123
               try clear c125
               try clear c125b0
               try clear c125b1
               try clear c127
               try clear c128
               try clear c129
               try clear c131
               try clear c132
               try clear c134
               try clear c137
               try clear c138
               try clear c139
               try clear c141
               try clear c142
               try clear c146
               try clear c147
               try clear c147b0
               try clear c147b1
               try clear c149
               try clear c149b0
               try clear c149b1
               try clear c150
               try clear c150b0
               try clear c150b1
               try clear c154
               try clear c155
               try clear c156
               try clear c159
               try clear c160
               try clear c162
               try clear c167
               try clear c168
               try clear c169
               try clear c172
               try clear c173
               try clear c175
               try clear c175b0
               try clear c175b1
               try clear c179
               try clear c180
               try clear c181
               try clear c183
               try clear c184
               try clear c186
               try clear c191
               try clear c192
               try clear c193
               try clear c195
               try clear c196
               try clear hcz109_0
               try clear hcz109_1
               try clear hcz113_0
               try clear hcz113_1
               try clear hcz115_0
               try clear hcz115_1
               try clear hcz120_0
               try clear hcz120_1
               try clear hcz124_0
               try clear hcz124_1
               try clear hcz130_0
               try clear hcz130_1
               try clear hcz133_0
               try clear hcz133_1
               try clear hcz135_0
               try clear hcz135_1
               try clear hcz140_0
               try clear hcz140_1
               try clear hcz143_0
               try clear hcz143_1
               try clear hcz157_0
               try clear hcz157_1
               try clear hcz161_0
               try clear hcz161_1
               try clear hcz163_0
               try clear hcz163_1
               try clear hcz170_0
               try clear hcz170_1
               try clear hcz174_0
               try clear hcz174_1
               try clear hcz182_0
               try clear hcz182_1
               try clear hcz185_0
               try clear hcz185_1
               try clear hcz187_0
               try clear hcz187_1
               try clear hcz194_0
               try clear hcz194_1
               try clear hcz197_0
               try clear hcz197_1
               try clear hfz109_0
               try clear hfz109_1
               try clear hfz113_0
               try clear hfz113_1
               try clear hfz115_0
               try clear hfz115_1
               try clear hfz120_0
               try clear hfz120_1
               try clear hfz124_0
               try clear hfz124_1
               try clear hfz130_0
               try clear hfz130_1
               try clear hfz133_0
               try clear hfz133_1
               try clear hfz135_0
               try clear hfz135_1
               try clear hfz140_0
               try clear hfz140_1
               try clear hfz143_0
               try clear hfz143_1
               try clear hfz157_0
               try clear hfz157_1
               try clear hfz161_0
               try clear hfz161_1
               try clear hfz163_0
               try clear hfz163_1
               try clear hfz170_0
               try clear hfz170_1
               try clear hfz174_0
               try clear hfz174_1
               try clear hfz182_0
               try clear hfz182_1
               try clear hfz185_0
               try clear hfz185_1
               try clear hfz187_0
               try clear hfz187_1
               try clear hfz194_0
               try clear hfz194_1
               try clear hfz197_0
               try clear hfz197_1
               obtain ⟨kq,x184_43,rfl,HA,HJ43,HO_5,HO_6,HO_7,HO_740000,HO_760000,BK734,BK739,BK749,BK759,HB⟩:=hcut
               cases kq with
               | zero=>exact absurd HA.out (by simp [Y0.j1])
               | succ kj43 =>
                have H:=HA.out
                clear HA
                simp only [Y0.j1] at H
                by_cases c198:x184_43=true
                ·subst c198
                 have H1:(none)=some r:=by rw [if_pos rfl] at H;exact H
                 clear H
                 have H:=H1
                 clear H1
                 exact nO H
                ·replace c198:=Bool.eq_false_iff.mpr c198
                 subst c198
                 have H1:((Y1.f kj43 t714).bind fun t802=>(if t802=true then ((Y1.f kj43 t715).bind fun t803=>(Y0.j2 kj43 t714 t715 t720 (!t803))) else (Y0.j2 kj43 t714 t715 t720 true)))=some r:=by rw [if_neg (show ¬ (false=true) by decide)] at H;exact H
                 clear H
                 have H:=H1
                 clear H1
                 have HC199:=aM H
                 clear H
                 go_upto_region 18 with (fail)
                 go_cut [192] (fun v192 wc=>∃ (kq:Nat) (x192_198:Bool),v192 = .bool x192_198∧Aside0 (Y0.j2 kq t714 t715 t720 x192_198=some r)∧Aside0 (kq≤kj43)∧Aside0 (Kd.R k49 49 wc w.heap.size (fun k_=>some k_≠((.slice Ao47 t715.length co47):Value).ownBlock∧some k_≠((.slice Ao79 t720.length co79):Value).ownBlock∧some k_≠((.slice Ao56 t735.length co56):Value).ownBlock∧some k_≠((.slice Ao71 t755.length co71):Value).ownBlock∧k_≠gb734∧k_≠gb749) (.slice Ao46 t714.length co46) t714)∧Aside0 (Kd.R k49 49 wc w.heap.size (fun k_=>some k_≠((.slice Ao46 t714.length co46):Value).ownBlock∧some k_≠((.slice Ao79 t720.length co79):Value).ownBlock∧some k_≠((.slice Ao56 t735.length co56):Value).ownBlock∧some k_≠((.slice Ao71 t755.length co71):Value).ownBlock∧k_≠gb734∧k_≠gb749) (.slice Ao47 t715.length co47) t715)∧Aside0 (Kd.R k49 49 wc w.heap.size (fun k_=>some k_≠((.slice Ao46 t714.length co46):Value).ownBlock∧some k_≠((.slice Ao47 t715.length co47):Value).ownBlock∧some k_≠((.slice Ao56 t735.length co56):Value).ownBlock∧some k_≠((.slice Ao71 t755.length co71):Value).ownBlock∧k_≠gb734∧k_≠gb749) (.slice Ao79 t720.length co79) t720)∧Aside0 (Kd.R k49 49 wc w.heap.size (fun k_=>some k_≠((.slice Ao46 t714.length co46):Value).ownBlock∧some k_≠((.slice Ao47 t715.length co47):Value).ownBlock∧some k_≠((.slice Ao79 t720.length co79):Value).ownBlock∧some k_≠((.slice Ao71 t755.length co71):Value).ownBlock∧k_≠gb734∧k_≠gb749) (.slice Ao56 t735.length co56) t735)∧Aside0 (Kd.R k49 49 wc w.heap.size (fun k_=>some k_≠((.slice Ao46 t714.length co46):Value).ownBlock∧some k_≠((.slice Ao47 t715.length co47):Value).ownBlock∧some k_≠((.slice Ao79 t720.length co79):Value).ownBlock∧some k_≠((.slice Ao56 t735.length co56):Value).ownBlock∧k_≠gb734∧k_≠gb749) (.slice Ao71 t755.length co71) t755)∧Aside0 (wc.heap[gb734]? = some (.cells #[.int .i64 t732,.int .i64 t733] 49 (0,0)))∧Aside0 (wc.heap[gb739]? = some (.cells #[(.slice Ao56 t735.length co56),.int .i64 t738] 53 (0,0)))∧Aside0 (wc.heap[gb749]? = some (.cells #[.int .i64 t747,.int .i64 t748] 49 (0,0)))∧Aside0 (wc.heap[gb759]? = some (.cells #[(.slice Ao71 t755.length co71),.int .i64 t758] 53 (0,0)))∧Aside0 (Below w.heap.size w wc))
                 case first=>as_aux_lemma =>
                  have H:=HC199.out
                  clear HC199
                  replace H:=bS H
                  obtain ⟨t802,A2000,H⟩:=H
                  replace H:(if t802=true then ((Y1.f kj43 t715).bind fun t803=>(Y0.j2 kj43 t714 t715 t720 (!t803))) else (Y0.j2 kj43 t714 t715 t720 true))=some r:=H
                  have A200:=aM A2000
                  clear A2000
                  by_cases c201:t802=true
                  ·subst c201
                   have H1:((Y1.f kj43 t715).bind fun t803=>(Y0.j2 kj43 t714 t715 t720 (!t803)))=some r:=by rw [if_pos rfl] at H;exact H
                   clear H
                   have H:=H1
                   clear H1
                   replace H:=bS H
                   obtain ⟨t803,A2020,H⟩:=H
                   replace H:(Y0.j2 kj43 t714 t715 t720 (!t803))=some r:=H
                   have A202:=aM A2020
                   clear A2020
                   have H':=aM H
                   clear H
                   go_wp2_with (first | ((with_reducible refine gc_ 42 ?_);refine gl_ (some 186) Try.func42 #[.slice Ao46 t714.length co46] ?_;(with_reducible refine (Y1.calls kj43 _ _ t714 true _ ?s1 ?s2 A200.out).mono ?_);(case s1=>repeat (first | exact (Kd.R_reads' HO_5.out).2.2 | (with_reducible refine Kd.C_alloc ?_ _) | (with_reducible refine Kd.C_drewN ?_ _) | (with_reducible refine Kd.C_drew ?_)));(case s2=>exact (Kd.R_reads' HO_5.out).2.1);rintro e w203 ⟨rfl,hb⟩;refine ⟨_,rfl,?_⟩;have n0_:=aM (Kd.R_below (z0_ HO_5.out) hb);have n1_:=aM (Kd.R_below (z0_ HO_6.out) hb);have n2_:=aM (Kd.R_below (z0_ HO_7.out) hb);have n3_:=aM (Kd.R_below (z0_ HO_740000.out) hb);have n4_:=aM (Kd.R_below (z0_ HO_760000.out) hb);have n5_:=aM (blkB_ BK734.out hb);have n6_:=aM (blkB_ BK739.out hb);have n7_:=aM (blkB_ BK749.out hb);have n8_:=aM (blkB_ BK759.out hb);have n9_:=aM (below_step (z9_ HB.out GE734.out GE739.out GE749.out GE759.out) hb);clear HO_5;clear HO_6;clear HO_7;clear HO_740000;clear HO_760000;clear BK734;clear BK739;clear BK749;clear BK759;clear HB;have HO_5:=n0_;have HO_6:=n1_;have HO_7:=n2_;have HO_740000:=n3_;have HO_760000:=n4_;have BK734:=n5_;have BK739:=n6_;have BK749:=n7_;have BK759:=n8_;have HB:=n9_;clear n0_ n1_ n2_ n3_ n4_ n5_ n6_ n7_ n8_ n9_;(try clear hb)) | (go_at_call 42;(with_reducible refine (Y1.calls kj43 _ _ t715 t803 _ ?s1 ?s2 A202.out).mono ?_);(case s1=>repeat (first | exact (Kd.R_reads' HO_6.out).2.2 | (with_reducible refine Kd.C_alloc ?_ _) | (with_reducible refine Kd.C_drewN ?_ _) | (with_reducible refine Kd.C_drew ?_)));(case s2=>exact (Kd.R_reads' HO_6.out).2.1);rintro e w204 ⟨rfl,hb⟩;have n0_:=aM (Kd.R_below (z0_ HO_5.out) hb);have n1_:=aM (Kd.R_below (z0_ HO_6.out) hb);have n2_:=aM (Kd.R_below (z0_ HO_7.out) hb);have n3_:=aM (Kd.R_below (z0_ HO_740000.out) hb);have n4_:=aM (Kd.R_below (z0_ HO_760000.out) hb);have n5_:=aM (blkB_ BK734.out hb);have n6_:=aM (blkB_ BK739.out hb);have n7_:=aM (blkB_ BK749.out hb);have n8_:=aM (blkB_ BK759.out hb);have n9_:=aM (below_step (z9_ HB.out GE734.out GE739.out GE749.out GE759.out) hb);clear HO_5;clear HO_6;clear HO_7;clear HO_740000;clear HO_760000;clear BK734;clear BK739;clear BK749;clear BK759;clear HB;have HO_5:=n0_;have HO_6:=n1_;have HO_7:=n2_;have HO_740000:=n3_;have HO_760000:=n4_;have BK734:=n5_;have BK739:=n6_;have BK749:=n7_;have BK759:=n8_;have HB:=n9_;clear n0_ n1_ n2_ n3_ n4_ n5_ n6_ n7_ n8_ n9_;(try clear hb)))
                   go_meet
                   case rel=>exact ⟨_,(!t803),(z3_),H',⟨z41_ HJ2.out HJ43.out⟩,⟨z0_ HO_5.out⟩,⟨z0_ HO_6.out⟩,⟨z0_ HO_7.out⟩,⟨z0_ HO_740000.out⟩,⟨z0_ HO_760000.out⟩,⟨z2_ BK734.out⟩,⟨z2_ BK739.out⟩,⟨z2_ BK749.out⟩,⟨z2_ BK759.out⟩,⟨z9_ HB.out GE734.out GE739.out GE749.out GE759.out⟩⟩
                  ·replace c201:=Bool.eq_false_iff.mpr c201
                   subst c201
                   have H1:(Y0.j2 kj43 t714 t715 t720 true)=some r:=by rw [if_neg (show ¬ (false=true) by decide)] at H;exact H
                   clear H
                   have H:=H1
                   clear H1
                   have H':=aM H
                   clear H
                   go_wp2_with (first | ((with_reducible refine gc_ 42 ?_);refine gl_ (some 186) Try.func42 #[.slice Ao46 t714.length co46] ?_;(with_reducible refine (Y1.calls kj43 _ _ t714 false _ ?s1 ?s2 A200.out).mono ?_);(case s1=>repeat (first | exact (Kd.R_reads' HO_5.out).2.2 | (with_reducible refine Kd.C_alloc ?_ _) | (with_reducible refine Kd.C_drewN ?_ _) | (with_reducible refine Kd.C_drew ?_)));(case s2=>exact (Kd.R_reads' HO_5.out).2.1);rintro e w205 ⟨rfl,hb⟩;refine ⟨_,rfl,?_⟩;have n0_:=aM (Kd.R_below (z0_ HO_5.out) hb);have n1_:=aM (Kd.R_below (z0_ HO_6.out) hb);have n2_:=aM (Kd.R_below (z0_ HO_7.out) hb);have n3_:=aM (Kd.R_below (z0_ HO_740000.out) hb);have n4_:=aM (Kd.R_below (z0_ HO_760000.out) hb);have n5_:=aM (blkB_ BK734.out hb);have n6_:=aM (blkB_ BK739.out hb);have n7_:=aM (blkB_ BK749.out hb);have n8_:=aM (blkB_ BK759.out hb);have n9_:=aM (below_step (z9_ HB.out GE734.out GE739.out GE749.out GE759.out) hb);clear HO_5;clear HO_6;clear HO_7;clear HO_740000;clear HO_760000;clear BK734;clear BK739;clear BK749;clear BK759;clear HB;have HO_5:=n0_;have HO_6:=n1_;have HO_7:=n2_;have HO_740000:=n3_;have HO_760000:=n4_;have BK734:=n5_;have BK739:=n6_;have BK749:=n7_;have BK759:=n8_;have HB:=n9_;clear n0_ n1_ n2_ n3_ n4_ n5_ n6_ n7_ n8_ n9_;(try clear hb)))
                   go_meet
                   case rel=>exact ⟨_,(true),(z3_),H',⟨z41_ HJ2.out HJ43.out⟩,⟨z0_ HO_5.out⟩,⟨z0_ HO_6.out⟩,⟨z0_ HO_7.out⟩,⟨z0_ HO_740000.out⟩,⟨z0_ HO_760000.out⟩,⟨z2_ BK734.out⟩,⟨z2_ BK739.out⟩,⟨z2_ BK749.out⟩,⟨z2_ BK759.out⟩,⟨z9_ HB.out GE734.out GE739.out GE749.out GE759.out⟩⟩
                 case rest=>as_aux_lemma =>
                  clear HC199
                  try clear c1
                  try clear c2
                  try clear p2
                  try clear c3
                  try clear c4
                  try clear c10
                  try clear c11
                  try clear c12
                  try clear c13
                  try clear c14
                  try clear c15
                  try clear c16
                  try clear c17
                  try clear c18
                  try clear c19
                  try clear c20
                  try clear c30
                  try clear c40
                  try clear c41
                  try clear c42
                  try clear c100
                  try clear c100b0
                  try clear c100b1
                  try clear c101
                  try clear c101b0
                  try clear c101b1
                  try clear c103
                  try clear c103b0
                  try clear c103b1
                  try clear c104
                  try clear c104b0
                  try clear c104b1
                  try clear c106
                  try clear c107
                  try clear c108
                  try clear c111
                  try clear c112
                  try clear c114
                  try clear c117
                  try clear c118
                  try clear c119
                  try clear c122
                  try clear c123
                  try clear c125
                  try clear c125b0
                  try clear c125b1
                  try clear c127
                  try clear c128
                  try clear c129
                  try clear c131
                  try clear c132
                  try clear c134
                  try clear c137
                  try clear c138
                  try clear c139
                  try clear c141
                  try clear c142
                  try clear c146
                  try clear c147
                  try clear c147b0
                  try clear c147b1
                  try clear c149
                  try clear c149b0
                  try clear c149b1
                  try clear c150
                  try clear c150b0
                  try clear c150b1
                  try clear c154
                  try clear c155
                  try clear c156
                  try clear c159
                  try clear c160
                  try clear c162
                  try clear c167
                  try clear c168
                  try clear c169
                  try clear c172
                  try clear c173
                  try clear c175
                  try clear c175b0
                  try clear c175b1
                  try clear c179
                  try clear c180
                  try clear c181
                  try clear c183
                  try clear c184
                  try clear c186
                  try clear c191
                  try clear c192
                  try clear c193
                  try clear c195
                  try clear c196
                  try clear c198
                  try clear c201
                  try clear hcz109_0
                  try clear hcz109_1
                  try clear hcz113_0
                  try clear hcz113_1
                  try clear hcz115_0
                  try clear hcz115_1
                  try clear hcz120_0
                  try clear hcz120_1
                  try clear hcz124_0
                  try clear hcz124_1
                  try clear hcz130_0
                  try clear hcz130_1
                  try clear hcz133_0
                  try clear hcz133_1
                  try clear hcz135_0
                  try clear hcz135_1
                  try clear hcz140_0
                  try clear hcz140_1
                  try clear hcz143_0
                  try clear hcz143_1
                  try clear hcz157_0
                  try clear hcz157_1
                  try clear hcz161_0
                  try clear hcz161_1
                  try clear hcz163_0
                  try clear hcz163_1
                  try clear hcz170_0
                  try clear hcz170_1
                  try clear hcz174_0
                  try clear hcz174_1
                  try clear hcz182_0
                  try clear hcz182_1
                  try clear hcz185_0
                  try clear hcz185_1
                  try clear hcz187_0
                  try clear hcz187_1
                  try clear hcz194_0
                  try clear hcz194_1
                  try clear hcz197_0
                  try clear hcz197_1
                  try clear hfz109_0
                  try clear hfz109_1
                  try clear hfz113_0
                  try clear hfz113_1
                  try clear hfz115_0
                  try clear hfz115_1
                  try clear hfz120_0
                  try clear hfz120_1
                  try clear hfz124_0
                  try clear hfz124_1
                  try clear hfz130_0
                  try clear hfz130_1
                  try clear hfz133_0
                  try clear hfz133_1
                  try clear hfz135_0
                  try clear hfz135_1
                  try clear hfz140_0
                  try clear hfz140_1
                  try clear hfz143_0
                  try clear hfz143_1
                  try clear hfz157_0
                  try clear hfz157_1
                  try clear hfz161_0
                  try clear hfz161_1
                  try clear hfz163_0
                  try clear hfz163_1
                  try clear hfz170_0
                  try clear hfz170_1
                  try clear hfz174_0
                  try clear hfz174_1
                  try clear hfz182_0
                  try clear hfz182_1
                  try clear hfz185_0
                  try clear hfz185_1
                  try clear hfz187_0
                  try clear hfz187_1
                  try clear hfz194_0
                  try clear hfz194_1
                  try clear hfz197_0
                  try clear hfz197_1
                  try clear p2
                  obtain ⟨kq,x192_198,rfl,HA,HJ198,HO_5,HO_6,HO_7,HO_740000,HO_760000,BK734,BK739,BK749,BK759,HB⟩:=hcut
                  cases kq with
                  | zero=>exact absurd HA.out (by simp [Y0.j2])
                  | succ kj198 =>
                   have H:=HA.out
                   clear HA
                   simp only [Y0.j2] at H
                   by_cases c206:x192_198=true
                   ·subst c206
                    have H1:(some true)=some r:=by rw [if_pos rfl] at H;exact H
                    clear H
                    have H:=H1
                    clear H1
                    obtain rfl:=sI H
                    go_wp2
                    go_ret
                    exact ⟨z5_,z9_ HB.out GE734.out GE739.out GE749.out GE759.out⟩
                   ·replace c206:=Bool.eq_false_iff.mpr c206
                    subst c206
                    have H1:(Y0.l0 kj198 t714 t715 t720 1)=some r:=by rw [if_neg (show ¬ (false=true) by decide)] at H;exact H
                    clear H
                    have H:=H1
                    clear H1
                    have H':=aM H
                    clear H
                    go_wp2
                    go_loopg [21] kj198 (fun kq v21 w'=>∃ (x21_4:Int),v21 = .int .i64 x21_4∧Aside0 (Y0.l0 kq t714 t715 t720 x21_4=some r)∧Aside0 (kq≤kj198)∧Aside0 (Kd.R k49 49 w' w.heap.size (fun k_=>some k_≠((.slice Ao47 t715.length co47):Value).ownBlock∧some k_≠((.slice Ao79 t720.length co79):Value).ownBlock∧some k_≠((.slice Ao56 t735.length co56):Value).ownBlock∧some k_≠((.slice Ao71 t755.length co71):Value).ownBlock∧k_≠gb734∧k_≠gb749) (.slice Ao46 t714.length co46) t714)∧Aside0 (Kd.R k49 49 w' w.heap.size (fun k_=>some k_≠((.slice Ao46 t714.length co46):Value).ownBlock∧some k_≠((.slice Ao79 t720.length co79):Value).ownBlock∧some k_≠((.slice Ao56 t735.length co56):Value).ownBlock∧some k_≠((.slice Ao71 t755.length co71):Value).ownBlock∧k_≠gb734∧k_≠gb749) (.slice Ao47 t715.length co47) t715)∧Aside0 (Kd.R k49 49 w' w.heap.size (fun k_=>some k_≠((.slice Ao46 t714.length co46):Value).ownBlock∧some k_≠((.slice Ao47 t715.length co47):Value).ownBlock∧some k_≠((.slice Ao56 t735.length co56):Value).ownBlock∧some k_≠((.slice Ao71 t755.length co71):Value).ownBlock∧k_≠gb734∧k_≠gb749) (.slice Ao79 t720.length co79) t720)∧Aside0 (Kd.R k49 49 w' w.heap.size (fun k_=>some k_≠((.slice Ao46 t714.length co46):Value).ownBlock∧some k_≠((.slice Ao47 t715.length co47):Value).ownBlock∧some k_≠((.slice Ao79 t720.length co79):Value).ownBlock∧some k_≠((.slice Ao71 t755.length co71):Value).ownBlock∧k_≠gb734∧k_≠gb749) (.slice Ao56 t735.length co56) t735)∧Aside0 (Kd.R k49 49 w' w.heap.size (fun k_=>some k_≠((.slice Ao46 t714.length co46):Value).ownBlock∧some k_≠((.slice Ao47 t715.length co47):Value).ownBlock∧some k_≠((.slice Ao79 t720.length co79):Value).ownBlock∧some k_≠((.slice Ao56 t735.length co56):Value).ownBlock∧k_≠gb734∧k_≠gb749) (.slice Ao71 t755.length co71) t755)∧Aside0 (w'.heap[gb734]? = some (.cells #[.int .i64 t732,.int .i64 t733] 49 (0,0)))∧Aside0 (w'.heap[gb739]? = some (.cells #[(.slice Ao56 t735.length co56),.int .i64 t738] 53 (0,0)))∧Aside0 (w'.heap[gb749]? = some (.cells #[.int .i64 t747,.int .i64 t748] 49 (0,0)))∧Aside0 (w'.heap[gb759]? = some (.cells #[(.slice Ao71 t755.length co71),.int .i64 t758] 53 (0,0)))∧Aside0 (Below w.heap.size w w'))
                    case atStart=>exact ⟨(1),(z3_),H',⟨Nat.le_refl _⟩,⟨z0_ HO_5.out⟩,⟨z0_ HO_6.out⟩,⟨z0_ HO_7.out⟩,⟨z0_ HO_740000.out⟩,⟨z0_ HO_760000.out⟩,⟨z2_ BK734.out⟩,⟨z2_ BK739.out⟩,⟨z2_ BK749.out⟩,⟨z2_ BK759.out⟩,⟨z9_ HB.out GE734.out GE739.out GE749.out GE759.out⟩⟩
                    case round=>as_aux_lemma =>
                     clear H'
                     try clear c1
                     try clear c2
                     try clear p2
                     try clear c3
                     try clear c4
                     try clear c10
                     try clear c11
                     try clear c12
                     try clear c13
                     try clear c14
                     try clear c15
                     try clear c16
                     try clear c17
                     try clear c18
                     try clear c19
                     try clear c20
                     try clear c30
                     try clear c40
                     try clear c41
                     try clear c42
                     try clear c100
                     try clear c100b0
                     try clear c100b1
                     try clear c101
                     try clear c101b0
                     try clear c101b1
                     try clear c103
                     try clear c103b0
                     try clear c103b1
                     try clear c104
                     try clear c104b0
                     try clear c104b1
                     try clear c106
                     try clear c107
                     try clear c108
                     try clear c111
                     try clear c112
                     try clear c114
                     try clear c117
                     try clear c118
                     try clear c119
                     try clear c122
                     try clear c123
                     try clear c125
                     try clear c125b0
                     try clear c125b1
                     try clear c127
                     try clear c128
                     try clear c129
                     try clear c131
                     try clear c132
                     try clear c134
                     try clear c137
                     try clear c138
                     try clear c139
                     try clear c141
                     try clear c142
                     try clear c146
                     try clear c147
                     try clear c147b0
                     try clear c147b1
                     try clear c149
                     try clear c149b0
                     try clear c149b1
                     try clear c150
                     try clear c150b0
                     try clear c150b1
                     try clear c154
                     try clear c155
                     try clear c156
                     try clear c159
                     try clear c160
                     try clear c162
                     try clear c167
                     try clear c168
                     try clear c169
                     try clear c172
                     try clear c173
                     try clear c175
                     try clear c175b0
                     try clear c175b1
                     try clear c179
                     try clear c180
                     try clear c181
                     try clear c183
                     try clear c184
                     try clear c186
                     try clear c191
                     try clear c192
                     try clear c193
                     try clear c195
                     try clear c196
                     try clear c198
                     try clear c201
                     try clear c206
                     try clear hcz109_0
                     try clear hcz109_1
                     try clear hcz113_0
                     try clear hcz113_1
                     try clear hcz115_0
                     try clear hcz115_1
                     try clear hcz120_0
                     try clear hcz120_1
                     try clear hcz124_0
                     try clear hcz124_1
                     try clear hcz130_0
                     try clear hcz130_1
                     try clear hcz133_0
                     try clear hcz133_1
                     try clear hcz135_0
                     try clear hcz135_1
                     try clear hcz140_0
                     try clear hcz140_1
                     try clear hcz143_0
                     try clear hcz143_1
                     try clear hcz157_0
                     try clear hcz157_1
                     try clear hcz161_0
                     try clear hcz161_1
                     try clear hcz163_0
                     try clear hcz163_1
                     try clear hcz170_0
                     try clear hcz170_1
                     try clear hcz174_0
                     try clear hcz174_1
                     try clear hcz182_0
                     try clear hcz182_1
                     try clear hcz185_0
                     try clear hcz185_1
                     try clear hcz187_0
                     try clear hcz187_1
                     try clear hcz194_0
                     try clear hcz194_1
                     try clear hcz197_0
                     try clear hcz197_1
                     try clear hfz109_0
                     try clear hfz109_1
                     try clear hfz113_0
                     try clear hfz113_1
                     try clear hfz115_0
                     try clear hfz115_1
                     try clear hfz120_0
                     try clear hfz120_1
                     try clear hfz124_0
                     try clear hfz124_1
                     try clear hfz130_0
                     try clear hfz130_1
                     try clear hfz133_0
                     try clear hfz133_1
                     try clear hfz135_0
                     try clear hfz135_1
                     try clear hfz140_0
                     try clear hfz140_1
                     try clear hfz143_0
                     try clear hfz143_1
                     try clear hfz157_0
                     try clear hfz157_1
                     try clear hfz161_0
                     try clear hfz161_1
                     try clear hfz163_0
                     try clear hfz163_1
                     try clear hfz170_0
                     try clear hfz170_1
                     try clear hfz174_0
                     try clear hfz174_1
                     try clear hfz182_0
                     try clear hfz182_1
                     try clear hfz185_0
                     try clear hfz185_1
                     try clear hfz187_0
                     try clear hfz187_1
                     try clear hfz194_0
                     try clear hfz194_1
                     try clear hfz197_0
                     try clear hfz197_1
                     try clear p2
                     obtain ⟨x21_4,rfl,HA,HK4,HO_5,HO_6,HO_7,HO_740000,HO_760000,BK734,BK739,BK749,BK759,HB⟩:=hrel
                     cases gk with
                     | zero=>exact absurd HA.out (by simp [Y0.l0])
                     | succ k4 =>
                      have H:=HA.out
                      clear HA
                      simp only [Y0.l0] at H
                      by_cases c207:x21_4≤5
                      ·rw [if_pos c207] at H
                       have c207b0:decide (x21_4≤5)=true:=dE c207
                       clear c207
                       replace H:=bS H
                       obtain ⟨t804,A2080,H⟩:=H
                       replace H:((Y33.f k4 t714 x21_4).bind fun t805=>(if t804=t805 then (Y0.l0 k4 t714 t715 t720 (wrap64 (x21_4+1))) else ((Y33.f k4 t720 x21_4).bind fun t806=>((Y33.f k4 t715 x21_4).bind fun t807=>(if t806=t807 then (Y0.l0 k4 t714 t715 t720 (wrap64 (x21_4+1))) else (none))))))=some r:=H
                       have A208:=aM A2080
                       clear A2080
                       replace H:=bS H
                       obtain ⟨t805,A2090,H⟩:=H
                       replace H:(if t804=t805 then (Y0.l0 k4 t714 t715 t720 (wrap64 (x21_4+1))) else ((Y33.f k4 t720 x21_4).bind fun t806=>((Y33.f k4 t715 x21_4).bind fun t807=>(if t806=t807 then (Y0.l0 k4 t714 t715 t720 (wrap64 (x21_4+1))) else (none)))))=some r:=H
                       have A209:=aM A2090
                       clear A2090
                       by_cases c210:t804=t805
                       ·rw [if_pos c210] at H
                        have c210b0:(t804 == t805)=true:=beq_iff_eq.mpr c210
                        have c210b1:(t804 != t805)=false:=bne_eq_false_iff_eq.mpr c210
                        clear c210
                        have H':=aM H
                        clear H
                        go_wp2_with (first | ((with_reducible refine gc_ 35 ?_);refine gl_ (some 199) Try.func35 #[.slice Ao79 t720.length co79,.int .i64 x21_4] ?_;(with_reducible refine (Y33.calls k4 _ _ t720 x21_4 t804 _ ?s1 ?s2 A208.out).mono ?_);(case s1=>repeat (first | exact (Kd.R_reads' HO_7.out).2.2 | (with_reducible refine Kd.C_alloc ?_ _) | (with_reducible refine Kd.C_drewN ?_ _) | (with_reducible refine Kd.C_drew ?_)));(case s2=>exact (Kd.R_reads' HO_7.out).2.1);rintro e w211 ⟨rfl,hb⟩;refine ⟨_,rfl,?_⟩;have n0_:=aM (Kd.R_below (z0_ HO_5.out) hb);have n1_:=aM (Kd.R_below (z0_ HO_6.out) hb);have n2_:=aM (Kd.R_below (z0_ HO_7.out) hb);have n3_:=aM (Kd.R_below (z0_ HO_740000.out) hb);have n4_:=aM (Kd.R_below (z0_ HO_760000.out) hb);have n5_:=aM (blkB_ BK734.out hb);have n6_:=aM (blkB_ BK739.out hb);have n7_:=aM (blkB_ BK749.out hb);have n8_:=aM (blkB_ BK759.out hb);have n9_:=aM (below_step (z9_ HB.out GE734.out GE739.out GE749.out GE759.out) hb);clear HO_5;clear HO_6;clear HO_7;clear HO_740000;clear HO_760000;clear BK734;clear BK739;clear BK749;clear BK759;clear HB;have HO_5:=n0_;have HO_6:=n1_;have HO_7:=n2_;have HO_740000:=n3_;have HO_760000:=n4_;have BK734:=n5_;have BK739:=n6_;have BK749:=n7_;have BK759:=n8_;have HB:=n9_;clear n0_ n1_ n2_ n3_ n4_ n5_ n6_ n7_ n8_ n9_;(try clear hb)) | ((with_reducible refine gc_ 35 ?_);refine gl_ (some 202) Try.func35 #[.slice Ao46 t714.length co46,.int .i64 x21_4] ?_;(with_reducible refine (Y33.calls k4 _ _ t714 x21_4 t805 _ ?s1 ?s2 A209.out).mono ?_);(case s1=>repeat (first | exact (Kd.R_reads' HO_5.out).2.2 | (with_reducible refine Kd.C_alloc ?_ _) | (with_reducible refine Kd.C_drewN ?_ _) | (with_reducible refine Kd.C_drew ?_)));(case s2=>exact (Kd.R_reads' HO_5.out).2.1);rintro e w212 ⟨rfl,hb⟩;refine ⟨_,rfl,?_⟩;have n0_:=aM (Kd.R_below (z0_ HO_5.out) hb);have n1_:=aM (Kd.R_below (z0_ HO_6.out) hb);have n2_:=aM (Kd.R_below (z0_ HO_7.out) hb);have n3_:=aM (Kd.R_below (z0_ HO_740000.out) hb);have n4_:=aM (Kd.R_below (z0_ HO_760000.out) hb);have n5_:=aM (blkB_ BK734.out hb);have n6_:=aM (blkB_ BK739.out hb);have n7_:=aM (blkB_ BK749.out hb);have n8_:=aM (blkB_ BK759.out hb);have n9_:=aM (below_step (z9_ HB.out GE734.out GE739.out GE749.out GE759.out) hb);clear HO_5;clear HO_6;clear HO_7;clear HO_740000;clear HO_760000;clear BK734;clear BK739;clear BK749;clear BK759;clear HB;have HO_5:=n0_;have HO_6:=n1_;have HO_7:=n2_;have HO_740000:=n3_;have HO_760000:=n4_;have BK734:=n5_;have BK739:=n6_;have BK749:=n7_;have BK759:=n8_;have HB:=n9_;clear n0_ n1_ n2_ n3_ n4_ n5_ n6_ n7_ n8_ n9_;(try clear hb)))
                        go_roundg k4
                        case measure=>have:=HJ2.out;have:=HJ43.out;have:=HJ198.out;have:=HK4.out;omega
                        case rel=>exact ⟨(wrap64 (x21_4+1)),(z3_),H',⟨by have:=HJ2.out;have:=HJ43.out;have:=HJ198.out;have:=HK4.out;omega⟩,⟨z0_ HO_5.out⟩,⟨z0_ HO_6.out⟩,⟨z0_ HO_7.out⟩,⟨z0_ HO_740000.out⟩,⟨z0_ HO_760000.out⟩,⟨z2_ BK734.out⟩,⟨z2_ BK739.out⟩,⟨z2_ BK749.out⟩,⟨z2_ BK759.out⟩,⟨z9_ HB.out GE734.out GE739.out GE749.out GE759.out⟩⟩
                       ·rw [if_neg c210] at H
                        have c210b0:(t804 == t805)=false:=beq_eq_false_iff_ne.mpr c210
                        have c210b1:(t804 != t805)=true:=bne_iff_ne.mpr c210
                        replace H:=bS H
                        obtain ⟨t806,A2130,H⟩:=H
                        replace H:((Y33.f k4 t715 x21_4).bind fun t807=>(if t806=t807 then (Y0.l0 k4 t714 t715 t720 (wrap64 (x21_4+1))) else (none)))=some r:=H
                        have A213:=aM A2130
                        clear A2130
                        replace H:=bS H
                        obtain ⟨t807,A2140,H⟩:=H
                        replace H:(if t806=t807 then (Y0.l0 k4 t714 t715 t720 (wrap64 (x21_4+1))) else (none))=some r:=H
                        have A214:=aM A2140
                        clear A2140
                        by_cases c215:t806=t807
                        ·rw [if_pos c215] at H
                         have c215b0:(t806 == t807)=true:=beq_iff_eq.mpr c215
                         have c215b1:(t806 != t807)=false:=bne_eq_false_iff_eq.mpr c215
                         clear c215
                         have H':=aM H
                         clear H
                         go_wp2_with (first | ((with_reducible refine gc_ 35 ?_);refine gl_ (some 199) Try.func35 #[.slice Ao79 t720.length co79,.int .i64 x21_4] ?_;(with_reducible refine (Y33.calls k4 _ _ t720 x21_4 t804 _ ?s1 ?s2 A208.out).mono ?_);(case s1=>repeat (first | exact (Kd.R_reads' HO_7.out).2.2 | (with_reducible refine Kd.C_alloc ?_ _) | (with_reducible refine Kd.C_drewN ?_ _) | (with_reducible refine Kd.C_drew ?_)));(case s2=>exact (Kd.R_reads' HO_7.out).2.1);rintro e w216 ⟨rfl,hb⟩;refine ⟨_,rfl,?_⟩;have n0_:=aM (Kd.R_below (z0_ HO_5.out) hb);have n1_:=aM (Kd.R_below (z0_ HO_6.out) hb);have n2_:=aM (Kd.R_below (z0_ HO_7.out) hb);have n3_:=aM (Kd.R_below (z0_ HO_740000.out) hb);have n4_:=aM (Kd.R_below (z0_ HO_760000.out) hb);have n5_:=aM (blkB_ BK734.out hb);have n6_:=aM (blkB_ BK739.out hb);have n7_:=aM (blkB_ BK749.out hb);have n8_:=aM (blkB_ BK759.out hb);have n9_:=aM (below_step (z9_ HB.out GE734.out GE739.out GE749.out GE759.out) hb);clear HO_5;clear HO_6;clear HO_7;clear HO_740000;clear HO_760000;clear BK734;clear BK739;clear BK749;clear BK759;clear HB;have HO_5:=n0_;have HO_6:=n1_;have HO_7:=n2_;have HO_740000:=n3_;have HO_760000:=n4_;have BK734:=n5_;have BK739:=n6_;have BK749:=n7_;have BK759:=n8_;have HB:=n9_;clear n0_ n1_ n2_ n3_ n4_ n5_ n6_ n7_ n8_ n9_;(try clear hb)) | ((with_reducible refine gc_ 35 ?_);refine gl_ (some 202) Try.func35 #[.slice Ao46 t714.length co46,.int .i64 x21_4] ?_;(with_reducible refine (Y33.calls k4 _ _ t714 x21_4 t805 _ ?s1 ?s2 A209.out).mono ?_);(case s1=>repeat (first | exact (Kd.R_reads' HO_5.out).2.2 | (with_reducible refine Kd.C_alloc ?_ _) | (with_reducible refine Kd.C_drewN ?_ _) | (with_reducible refine Kd.C_drew ?_)));(case s2=>exact (Kd.R_reads' HO_5.out).2.1);rintro e w217 ⟨rfl,hb⟩;refine ⟨_,rfl,?_⟩;have n0_:=aM (Kd.R_below (z0_ HO_5.out) hb);have n1_:=aM (Kd.R_below (z0_ HO_6.out) hb);have n2_:=aM (Kd.R_below (z0_ HO_7.out) hb);have n3_:=aM (Kd.R_below (z0_ HO_740000.out) hb);have n4_:=aM (Kd.R_below (z0_ HO_760000.out) hb);have n5_:=aM (blkB_ BK734.out hb);have n6_:=aM (blkB_ BK739.out hb);have n7_:=aM (blkB_ BK749.out hb);have n8_:=aM (blkB_ BK759.out hb);have n9_:=aM (below_step (z9_ HB.out GE734.out GE739.out GE749.out GE759.out) hb);clear HO_5;clear HO_6;clear HO_7;clear HO_740000;clear HO_760000;clear BK734;clear BK739;clear BK749;clear BK759;clear HB;have HO_5:=n0_;have HO_6:=n1_;have HO_7:=n2_;have HO_740000:=n3_;have HO_760000:=n4_;have BK734:=n5_;have BK739:=n6_;have BK749:=n7_;have BK759:=n8_;have HB:=n9_;clear n0_ n1_ n2_ n3_ n4_ n5_ n6_ n7_ n8_ n9_;(try clear hb)) | (go_at_call 35;(with_reducible refine (Y33.calls k4 _ _ t720 x21_4 t806 _ ?s1 ?s2 A213.out).mono ?_);(case s1=>repeat (first | exact (Kd.R_reads' HO_7.out).2.2 | (with_reducible refine Kd.C_alloc ?_ _) | (with_reducible refine Kd.C_drewN ?_ _) | (with_reducible refine Kd.C_drew ?_)));(case s2=>exact (Kd.R_reads' HO_7.out).2.1);rintro e w218 ⟨rfl,hb⟩;have n0_:=aM (Kd.R_below (z0_ HO_5.out) hb);have n1_:=aM (Kd.R_below (z0_ HO_6.out) hb);have n2_:=aM (Kd.R_below (z0_ HO_7.out) hb);have n3_:=aM (Kd.R_below (z0_ HO_740000.out) hb);have n4_:=aM (Kd.R_below (z0_ HO_760000.out) hb);have n5_:=aM (blkB_ BK734.out hb);have n6_:=aM (blkB_ BK739.out hb);have n7_:=aM (blkB_ BK749.out hb);have n8_:=aM (blkB_ BK759.out hb);have n9_:=aM (below_step (z9_ HB.out GE734.out GE739.out GE749.out GE759.out) hb);clear HO_5;clear HO_6;clear HO_7;clear HO_740000;clear HO_760000;clear BK734;clear BK739;clear BK749;clear BK759;clear HB;have HO_5:=n0_;have HO_6:=n1_;have HO_7:=n2_;have HO_740000:=n3_;have HO_760000:=n4_;have BK734:=n5_;have BK739:=n6_;have BK749:=n7_;have BK759:=n8_;have HB:=n9_;clear n0_ n1_ n2_ n3_ n4_ n5_ n6_ n7_ n8_ n9_;(try clear hb)) | (go_at_call 35;(with_reducible refine (Y33.calls k4 _ _ t715 x21_4 t807 _ ?s1 ?s2 A214.out).mono ?_);(case s1=>repeat (first | exact (Kd.R_reads' HO_6.out).2.2 | (with_reducible refine Kd.C_alloc ?_ _) | (with_reducible refine Kd.C_drewN ?_ _) | (with_reducible refine Kd.C_drew ?_)));(case s2=>exact (Kd.R_reads' HO_6.out).2.1);rintro e w219 ⟨rfl,hb⟩;have n0_:=aM (Kd.R_below (z0_ HO_5.out) hb);have n1_:=aM (Kd.R_below (z0_ HO_6.out) hb);have n2_:=aM (Kd.R_below (z0_ HO_7.out) hb);have n3_:=aM (Kd.R_below (z0_ HO_740000.out) hb);have n4_:=aM (Kd.R_below (z0_ HO_760000.out) hb);have n5_:=aM (blkB_ BK734.out hb);have n6_:=aM (blkB_ BK739.out hb);have n7_:=aM (blkB_ BK749.out hb);have n8_:=aM (blkB_ BK759.out hb);have n9_:=aM (below_step (z9_ HB.out GE734.out GE739.out GE749.out GE759.out) hb);clear HO_5;clear HO_6;clear HO_7;clear HO_740000;clear HO_760000;clear BK734;clear BK739;clear BK749;clear BK759;clear HB;have HO_5:=n0_;have HO_6:=n1_;have HO_7:=n2_;have HO_740000:=n3_;have HO_760000:=n4_;have BK734:=n5_;have BK739:=n6_;have BK749:=n7_;have BK759:=n8_;have HB:=n9_;clear n0_ n1_ n2_ n3_ n4_ n5_ n6_ n7_ n8_ n9_;(try clear hb)))
                         go_roundg k4
                         case measure=>have:=HJ2.out;have:=HJ43.out;have:=HJ198.out;have:=HK4.out;omega
                         case rel=>exact ⟨(wrap64 (x21_4+1)),(z3_),H',⟨by have:=HJ2.out;have:=HJ43.out;have:=HJ198.out;have:=HK4.out;omega⟩,⟨z0_ HO_5.out⟩,⟨z0_ HO_6.out⟩,⟨z0_ HO_7.out⟩,⟨z0_ HO_740000.out⟩,⟨z0_ HO_760000.out⟩,⟨z2_ BK734.out⟩,⟨z2_ BK739.out⟩,⟨z2_ BK749.out⟩,⟨z2_ BK759.out⟩,⟨z9_ HB.out GE734.out GE739.out GE749.out GE759.out⟩⟩
                        ·rw [if_neg c215] at H
                         exact nO H
                      ·rw [if_neg c207] at H
                       have c207b0:decide (x21_4≤5)=false:=dF c207
                       clear c207
                       replace H:=bS H
                       obtain ⟨t808,A2200,H⟩:=H
                       replace H:(if t808=true then ((Y32.f k4 t715 t720).bind fun t809=>(if t809=true then ((Y51.f k4 t715 t714).bind fun t810=>((Y6.f k4 t720 t810).bind fun t813=>(if t813=true then ((Y32.f k4 t714 t715).bind fun t814=>((Y6.f k4 t720 t715).bind fun t815=>(some (t814 == t815)))) else (none)))) else (none))) else (none))=some r:=H
                       have A220:=aM A2200
                       clear A2200
                       by_cases c221:t808=true
                       ·subst c221
                        have H1:((Y32.f k4 t715 t720).bind fun t809=>(if t809=true then ((Y51.f k4 t715 t714).bind fun t810=>((Y6.f k4 t720 t810).bind fun t813=>(if t813=true then ((Y32.f k4 t714 t715).bind fun t814=>((Y6.f k4 t720 t715).bind fun t815=>(some (t814 == t815)))) else (none)))) else (none)))=some r:=by rw [if_pos rfl] at H;exact H
                        clear H
                        have H:=H1
                        clear H1
                        replace H:=bS H
                        obtain ⟨t809,A2220,H⟩:=H
                        replace H:(if t809=true then ((Y51.f k4 t715 t714).bind fun t810=>((Y6.f k4 t720 t810).bind fun t813=>(if t813=true then ((Y32.f k4 t714 t715).bind fun t814=>((Y6.f k4 t720 t715).bind fun t815=>(some (t814 == t815)))) else (none)))) else (none))=some r:=H
                        have A222:=aM A2220
                        clear A2220
                        by_cases c223:t809=true
                        ·subst c223
                         have H1:((Y51.f k4 t715 t714).bind fun t810=>((Y6.f k4 t720 t810).bind fun t813=>(if t813=true then ((Y32.f k4 t714 t715).bind fun t814=>((Y6.f k4 t720 t715).bind fun t815=>(some (t814 == t815)))) else (none))))=some r:=by rw [if_pos rfl] at H;exact H
                         clear H
                         have H:=H1
                         clear H1
                         replace H:=bS H
                         obtain ⟨t810,A2240,H⟩:=H
                         replace H:((Y6.f k4 t720 t810).bind fun t813=>(if t813=true then ((Y32.f k4 t714 t715).bind fun t814=>((Y6.f k4 t720 t715).bind fun t815=>(some (t814 == t815)))) else (none)))=some r:=H
                         have A224:=aM A2240
                         clear A2240
                         replace H:=bS H
                         obtain ⟨t813,A2250,H⟩:=H
                         replace H:(if t813=true then ((Y32.f k4 t714 t715).bind fun t814=>((Y6.f k4 t720 t715).bind fun t815=>(some (t814 == t815)))) else (none))=some r:=H
                         have A225:=aM A2250
                         clear A2250
                         by_cases c226:t813=true
                         ·subst c226
                          have H1:((Y32.f k4 t714 t715).bind fun t814=>((Y6.f k4 t720 t715).bind fun t815=>(some (t814 == t815))))=some r:=by rw [if_pos rfl] at H;exact H
                          clear H
                          have H:=H1
                          clear H1
                          replace H:=bS H
                          obtain ⟨t814,A2270,H⟩:=H
                          replace H:((Y6.f k4 t720 t715).bind fun t815=>(some (t814 == t815)))=some r:=H
                          have A227:=aM A2270
                          clear A2270
                          replace H:=bS H
                          obtain ⟨t815,A2280,H⟩:=H
                          replace H:(some (t814 == t815))=some r:=H
                          have A228:=aM A2280
                          clear A2280
                          obtain rfl:=sI H
                          go_wp2_with (first | ((with_reducible refine gc_ 32 ?_);refine gl_ (some 215) Try.func32 #[.slice Ao46 t714.length co46,.slice Ao79 t720.length co79] ?_;(with_reducible refine (Y32.calls k4 _ _ t714 _ _ t720 true _ ?s1 ?s2 ?s3 ?s4 A220.out).mono ?_);(case s1=>repeat (first | exact (Kd.R_reads' HO_5.out).2.2 | (with_reducible refine Kd.C_alloc ?_ _) | (with_reducible refine Kd.C_drewN ?_ _) | (with_reducible refine Kd.C_drew ?_)));(case s2=>exact (Kd.R_reads' HO_5.out).2.1);(case s3=>repeat (first | exact (Kd.R_reads' HO_7.out).2.2 | (with_reducible refine Kd.C_alloc ?_ _) | (with_reducible refine Kd.C_drewN ?_ _) | (with_reducible refine Kd.C_drew ?_)));(case s4=>exact (Kd.R_reads' HO_7.out).2.1);rintro e w229 ⟨rfl,hb⟩;refine ⟨_,rfl,?_⟩;have n0_:=aM (Kd.R_below (z0_ HO_5.out) hb);have n1_:=aM (Kd.R_below (z0_ HO_6.out) hb);have n2_:=aM (Kd.R_below (z0_ HO_7.out) hb);have n3_:=aM (Kd.R_below (z0_ HO_740000.out) hb);have n4_:=aM (Kd.R_below (z0_ HO_760000.out) hb);have n5_:=aM (blkB_ BK734.out hb);have n6_:=aM (blkB_ BK739.out hb);have n7_:=aM (blkB_ BK749.out hb);have n8_:=aM (blkB_ BK759.out hb);have n9_:=aM (below_step (z9_ HB.out GE734.out GE739.out GE749.out GE759.out) hb);clear HO_5;clear HO_6;clear HO_7;clear HO_740000;clear HO_760000;clear BK734;clear BK739;clear BK749;clear BK759;clear HB;have HO_5:=n0_;have HO_6:=n1_;have HO_7:=n2_;have HO_740000:=n3_;have HO_760000:=n4_;have BK734:=n5_;have BK739:=n6_;have BK749:=n7_;have BK759:=n8_;have HB:=n9_;clear n0_ n1_ n2_ n3_ n4_ n5_ n6_ n7_ n8_ n9_;(try clear hb)) | (go_at_call 32;(with_reducible refine (Y32.calls k4 _ _ t715 _ _ t720 true _ ?s1 ?s2 ?s3 ?s4 A222.out).mono ?_);(case s1=>repeat (first | exact (Kd.R_reads' HO_6.out).2.2 | (with_reducible refine Kd.C_alloc ?_ _) | (with_reducible refine Kd.C_drewN ?_ _) | (with_reducible refine Kd.C_drew ?_)));(case s2=>exact (Kd.R_reads' HO_6.out).2.1);(case s3=>repeat (first | exact (Kd.R_reads' HO_7.out).2.2 | (with_reducible refine Kd.C_alloc ?_ _) | (with_reducible refine Kd.C_drewN ?_ _) | (with_reducible refine Kd.C_drew ?_)));(case s4=>exact (Kd.R_reads' HO_7.out).2.1);rintro e w230 ⟨rfl,hb⟩;have n0_:=aM (Kd.R_below (z0_ HO_5.out) hb);have n1_:=aM (Kd.R_below (z0_ HO_6.out) hb);have n2_:=aM (Kd.R_below (z0_ HO_7.out) hb);have n3_:=aM (Kd.R_below (z0_ HO_740000.out) hb);have n4_:=aM (Kd.R_below (z0_ HO_760000.out) hb);have n5_:=aM (blkB_ BK734.out hb);have n6_:=aM (blkB_ BK739.out hb);have n7_:=aM (blkB_ BK749.out hb);have n8_:=aM (blkB_ BK759.out hb);have n9_:=aM (below_step (z9_ HB.out GE734.out GE739.out GE749.out GE759.out) hb);clear HO_5;clear HO_6;clear HO_7;clear HO_740000;clear HO_760000;clear BK734;clear BK739;clear BK749;clear BK759;clear HB;have HO_5:=n0_;have HO_6:=n1_;have HO_7:=n2_;have HO_740000:=n3_;have HO_760000:=n4_;have BK734:=n5_;have BK739:=n6_;have BK749:=n7_;have BK759:=n8_;have HB:=n9_;clear n0_ n1_ n2_ n3_ n4_ n5_ n6_ n7_ n8_ n9_;(try clear hb)) | (go_at_call 20;(with_reducible refine (Y51.calls k4 _ _ t715 _ _ t714 t810 _ ?s1 ?s2 ?s3 ?s4 A224.out).mono ?_);(case s1=>repeat (first | exact (Kd.R_reads' HO_6.out).2.2 | (with_reducible refine Kd.C_alloc ?_ _) | (with_reducible refine Kd.C_drewN ?_ _) | (with_reducible refine Kd.C_drew ?_)));(case s2=>exact (Kd.R_reads' HO_6.out).2.1);(case s3=>repeat (first | exact (Kd.R_reads' HO_5.out).2.2 | (with_reducible refine Kd.C_alloc ?_ _) | (with_reducible refine Kd.C_drewN ?_ _) | (with_reducible refine Kd.C_drew ?_)));(case s4=>exact (Kd.R_reads' HO_5.out).2.1);rintro e w231 ⟨v811,rfl,ho0,hb⟩;have n0_:=aM (Kd.R_elder' (z0_ HO_5.out) (Kd.R_base ho0) hb);have n1_:=aM (Kd.R_elder' (z0_ HO_6.out) (Kd.R_base ho0) hb);have n2_:=aM (Kd.R_elder' (z0_ HO_7.out) (Kd.R_base ho0) hb);have n3_:=aM (Kd.R_elder' (z0_ HO_740000.out) (Kd.R_base ho0) hb);have n4_:=aM (Kd.R_elder' (z0_ HO_760000.out) (Kd.R_base ho0) hb);have n5_:=aM (Kd.R_lower (Kd.R_newB (Kd.R_newB (Kd.R_new' (Kd.R_new' (Kd.R_new' (Kd.R_new' (Kd.R_new' ho0 (Kd.R_lt (z0_ HO_5.out))) (Kd.R_lt (z0_ HO_6.out))) (Kd.R_lt (z0_ HO_7.out))) (Kd.R_lt (z0_ HO_740000.out))) (Kd.R_lt (z0_ HO_760000.out))) (g:=gb734) (o:=.cells #[.int .i64 t732,.int .i64 t733] 49 (0,0)) (z2_ BK734.out)) (g:=gb749) (o:=.cells #[.int .i64 t747,.int .i64 t748] 49 (0,0)) (z2_ BK749.out)) (below_size (z9_ HB.out GE734.out GE739.out GE749.out GE759.out)));have n6_:=aM (blkB_ BK734.out hb);have n7_:=aM (blkB_ BK739.out hb);have n8_:=aM (blkB_ BK749.out hb);have n9_:=aM (blkB_ BK759.out hb);have n10_:=aM (below_step (z9_ HB.out GE734.out GE739.out GE749.out GE759.out) hb);clear HO_5;clear HO_6;clear HO_7;clear HO_740000;clear HO_760000;clear BK734;clear BK739;clear BK749;clear BK759;clear HB;have HO_5:=n0_;have HO_6:=n1_;have HO_7:=n2_;have HO_740000:=n3_;have HO_760000:=n4_;have HO812:=n5_;have BK734:=n6_;have BK739:=n7_;have BK749:=n8_;have BK759:=n9_;have HB:=n10_;clear n0_ n1_ n2_ n3_ n4_ n5_ n6_ n7_ n8_ n9_ n10_;(try clear hb);(try clear ho0);obtain ⟨Ao232,co232,eo232⟩:=Kd.R_slice HO812.out;subst eo232) | (go_at_call 30;(with_reducible refine (Y6.calls k4 _ _ t720 _ _ t810 true _ ?s1 ?s2 ?s3 ?s4 A225.out).mono ?_);(case s1=>repeat (first | exact (Kd.R_reads' HO_7.out).2.2 | (with_reducible refine Kd.C_alloc ?_ _) | (with_reducible refine Kd.C_drewN ?_ _) | (with_reducible refine Kd.C_drew ?_)));(case s2=>exact (Kd.R_reads' HO_7.out).2.1);(case s3=>repeat (first | exact (Kd.R_reads' HO812.out).2.2 | (with_reducible refine Kd.C_alloc ?_ _) | (with_reducible refine Kd.C_drewN ?_ _) | (with_reducible refine Kd.C_drew ?_)));(case s4=>exact (Kd.R_reads' HO812.out).2.1);rintro e w' ⟨rfl,⟨nd,rfl⟩⟩) | (go_at_call 32;(with_reducible refine (Y32.calls k4 _ _ t714 _ _ t715 t814 _ ?s1 ?s2 ?s3 ?s4 A227.out).mono ?_);(case s1=>repeat (first | exact (Kd.R_reads' HO_5.out).2.2 | (with_reducible refine Kd.C_alloc ?_ _) | (with_reducible refine Kd.C_drewN ?_ _) | (with_reducible refine Kd.C_drew ?_)));(case s2=>exact (Kd.R_reads' HO_5.out).2.1);(case s3=>repeat (first | exact (Kd.R_reads' HO_6.out).2.2 | (with_reducible refine Kd.C_alloc ?_ _) | (with_reducible refine Kd.C_drewN ?_ _) | (with_reducible refine Kd.C_drew ?_)));(case s4=>exact (Kd.R_reads' HO_6.out).2.1);rintro e w233 ⟨rfl,hb⟩;have n0_:=aM (Kd.R_below (z0_ HO_5.out) hb);have n1_:=aM (Kd.R_below (z0_ HO_6.out) hb);have n2_:=aM (Kd.R_below (z0_ HO_7.out) hb);have n3_:=aM (Kd.R_below (z0_ HO_740000.out) hb);have n4_:=aM (Kd.R_below (z0_ HO_760000.out) hb);have n5_:=aM (Kd.R_below (z0_ HO812.out) hb);have n6_:=aM (blkB_ BK734.out hb);have n7_:=aM (blkB_ BK739.out hb);have n8_:=aM (blkB_ BK749.out hb);have n9_:=aM (blkB_ BK759.out hb);have n10_:=aM (below_step (z9_ HB.out GE734.out GE739.out GE749.out GE759.out) hb);clear HO_5;clear HO_6;clear HO_7;clear HO_740000;clear HO_760000;clear HO812;clear BK734;clear BK739;clear BK749;clear BK759;clear HB;have HO_5:=n0_;have HO_6:=n1_;have HO_7:=n2_;have HO_740000:=n3_;have HO_760000:=n4_;have HO812:=n5_;have BK734:=n6_;have BK739:=n7_;have BK749:=n8_;have BK759:=n9_;have HB:=n10_;clear n0_ n1_ n2_ n3_ n4_ n5_ n6_ n7_ n8_ n9_ n10_;(try clear hb)) | (go_at_call 30;(with_reducible refine (Y6.calls k4 _ _ t720 _ _ t715 t815 _ ?s1 ?s2 ?s3 ?s4 A228.out).mono ?_);(case s1=>repeat (first | exact (Kd.R_reads' HO_7.out).2.2 | (with_reducible refine Kd.C_alloc ?_ _) | (with_reducible refine Kd.C_drewN ?_ _) | (with_reducible refine Kd.C_drew ?_)));(case s2=>exact (Kd.R_reads' HO_7.out).2.1);(case s3=>repeat (first | exact (Kd.R_reads' HO_6.out).2.2 | (with_reducible refine Kd.C_alloc ?_ _) | (with_reducible refine Kd.C_drewN ?_ _) | (with_reducible refine Kd.C_drew ?_)));(case s4=>exact (Kd.R_reads' HO_6.out).2.1);rintro e w' ⟨rfl,⟨nd,rfl⟩⟩))
                          go_ret
                          exact ⟨z5_,z9_ HB.out GE734.out GE739.out GE749.out GE759.out⟩
                         ·replace c226:=Bool.eq_false_iff.mpr c226
                          subst c226
                          have H1:(none)=some r:=by rw [if_neg (show ¬ (false=true) by decide)] at H;exact H
                          clear H
                          have H:=H1
                          clear H1
                          exact nO H
                        ·replace c223:=Bool.eq_false_iff.mpr c223
                         subst c223
                         have H1:(none)=some r:=by rw [if_neg (show ¬ (false=true) by decide)] at H;exact H
                         clear H
                         have H:=H1
                         clear H1
                         exact nO H
                       ·replace c221:=Bool.eq_false_iff.mpr c221
                        subst c221
                        have H1:(none)=some r:=by rw [if_neg (show ¬ (false=true) by decide)] at H;exact H
                        clear H
                        have H:=H1
                        clear H1
                        exact nO H
            ·replace c40:=Bool.eq_false_iff.mpr c40
             subst c40
             have H1:(none)=some r:=by rw [if_neg (show ¬ (false=true) by decide)] at H;exact H
             clear H
             have H:=H1
             clear H1
             exact nO H
           ·rw [if_neg c37] at H
            exact nO H
          ·rw [if_neg c35] at H
           exact nO H
        ·rw [if_neg c30] at H
         exact nO H
       ·replace c27:=Bool.eq_false_iff.mpr c27
        subst c27
        have H1:(none)=some r:=by rw [if_neg (show ¬ (false=true) by decide)] at H;exact H
        clear H
        have H:=H1
        clear H1
        exact nO H
      ·rw [if_neg c24] at H
       exact nO H
    ·replace c19:=Bool.eq_false_iff.mpr c19
     subst c19
     have H1:(none)=some r:=by rw [if_neg (show ¬ (false=true) by decide)] at H;exact H
     clear H
     have H:=H1
     clear H1
     exact nO H

/-- THE ONE PURE STATEMENT of Y0: yours. -/
def Y0.Pure:Prop:=∀ (l0:List Int) (l1:List Int),l0.length≤maxLen→l0.length*1≤140737488351232→(∀ x ∈ l0,(Lit.int .u8 x).wf=true)→l1.length≤maxLen→l1.length*1≤140737488351232→(∀ x ∈ l1,(Lit.int .u8 x).wf=true)→∃ k,Y0.f k l0 l1=some true
theorem Y0.walk (P:Y0.Pure) (a0:Option Addr) (len0 cap0:Nat) (z0:List Int) (a1:Option Addr) (len1 cap1:Nat) (z1:List Int) (w:World) (w0:(a0=none∧len0=0∧cap0=0∧z0=[])∨∃ x,a0=some x∧len0≤cap0∧cap0≤maxLen∧z0.length=cap0∧(∀ i,i<z0.length→w.cell? (x.add i)=some (.int .u8 (z0.getD i 0)))∧∀ n ∈ z0,(Lit.int .u8 n).wf=true) (y0:len0*1≤140737488351232) (w1:(a1=none∧len1=0∧cap1=0∧z1=[])∨∃ x,a1=some x∧len1≤cap1∧cap1≤maxLen∧z1.length=cap1∧(∀ i,i<z1.length→w.cell? (x.add i)=some (.int .u8 (z1.getD i 0)))∧∀ n ∈ z1,(Lit.int .u8 n).wf=true) (y1:len1*1≤140737488351232) :
  Calls Try.prog 5 #[.slice a0 len0 cap0,.slice a1 len1 cap1] w fun e w'=>e = .returned (.bool true)∧Below w.heap.size w w':=by
 obtain ⟨l0,rfl,hr0,hm0,hw0,hc0⟩:=ReadsInt.ofRowC w0
 obtain ⟨l1,rfl,hr1,hm1,hw1,hc1⟩:=ReadsInt.ofRowC w1
 obtain ⟨k,h⟩:=P l0 l1 hm0 y0 hw0 hm1 y1 hw1
 refine (Y0.calls k _ _ l0 _ _ l1 true w (Kd.C_of_reads (d:=(0:Int)) (h1:=fun _=>rfl) hr0) hc0 (Kd.C_of_reads (d:=(0:Int)) (h1:=fun _=>rfl) hr1) hc1 h).mono ?_
 rintro e w' ⟨rfl,hd⟩
 exact ⟨rfl,hd⟩

end Go.Proofs.Ytmefchanjoadfaa.P
