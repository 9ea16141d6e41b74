/- Every text: the program's ActRead and the reference's read the same. No condition. (Part 3 of 5: written by programs of this workplace and by hand, merged.) -/
import Derived.Test.YtkaojnmgflaldaaDoorMFnExactActReada
import Derived.Test.YtkaojnmgflaldaaDoorMFnExactActReadb
import Derived.Shelf.Strconv.Itoa4
import Derived.Shelf.Unicode.PredsPay
import Derived.Lib.OthersKept
set_option linter.unusedVariables false
set_option linter.unusedSimpArgs false

namespace Go.Proofs.YtkaojnmgflaldaaDoor.P
open Go.RowKit Go.Proofs.YtkaojnmgflaldaaDoorW.PrintWords Go.Proofs.YtkaojnmgflaldaaDoorW.PrintLast Go.Proofs.YtkaojnmgflaldaaDoorW.PrintMore
attribute [local go_sem] max2_int min2_int max_two min_two max_three min_three max_four min_four   -- for this text's walks alone
set_option linter.unusedVariables false
set_option linter.unusedSimpArgs false

/-! ### Y16: function 37 -/
def Y16.j0:Nat→Bool→Option (Bool)
 | 0,_=>none
 | k+1,x4=>if x4=true then (some true) else (some false)
def Y16.f (k:Nat) (a0:Int):Option (Bool):=if a0=1 then (Y16.j0 k (a0 == 1)) else (if a0=2 then (Y16.j0 k (a0 == 2)) else (if a0=3 then (Y16.j0 k (a0 == 3)) else (if a0=5 then (Y16.j0 k (a0 == 5)) else (Y16.j0 k (a0 == 14)))))
theorem Y16.mono_l:∀ k,(∀ y0,LeO (Y16.j0 k y0) (Y16.j0 (k+1) y0))
 | 0=>fun _ r h=>by simp [Y16.j0] at h
 | k+1=>by
  have ih0:=Y16.mono_l k
  ·intro y0
   unfold Y16.j0
   repeat' first
   | (with_reducible exact ih0 _)
   | (with_reducible exact LeO.refl _)
   | (with_reducible exact LeO.none _)
   | (with_reducible refine LeO.ite ?_ ?_)
   | (with_reducible refine LeO.bind ?_ (fun _=>?_))
   | exact ih0 _
   | exact LeO.none _
   | refine LeO.ite ?_ ?_
   | refine LeO.bind ?_ (fun _=>?_)
theorem Y16.mono:∀ a0 k,LeO (Y16.f k a0) (Y16.f (k+1) a0):=by
 intro a0 k
 have ih0:=Y16.mono_l k
 unfold Y16.f
 repeat' first
   | (with_reducible exact ih0 _)
   | (with_reducible exact LeO.refl _)
   | (with_reducible exact LeO.none _)
   | (with_reducible refine LeO.ite ?_ ?_)
   | (with_reducible refine LeO.bind ?_ (fun _=>?_))
   | exact ih0 _
   | exact LeO.none _
   | refine LeO.ite ?_ ?_
   | refine LeO.bind ?_ (fun _=>?_)
set_option maxHeartbeats 8000000 in
set_option maxRecDepth 100000 in
theorem Y16.calls (k:Nat) (a0:Int) (r:Bool) (w:World) (h:Y16.f k a0=some r) :
  Calls Tryd.prog 37 #[.int .i64 a0] w fun e w'=>e = .returned (.bool r)∧Drawn0 w w':=by
 have H:(if a0=1 then (Y16.j0 k (a0 == 1)) else (if a0=2 then (Y16.j0 k (a0 == 2)) else (if a0=3 then (Y16.j0 k (a0 == 3)) else (if a0=5 then (Y16.j0 k (a0 == 5)) else (Y16.j0 k (a0 == 14))))))=some r:=h
 clear h
 have HC2:=Aside0.mk H
 clear H
 go_enter Tryd.func37,Tryd.ntmps37
 go_upto_if 4 with (fail)
 go_cut [4] (fun v4 wc=>∃ (kq:Nat) (x4_1:Bool),v4 = .bool x4_1∧Aside0 (Y16.j0 kq x4_1=some r)∧Aside0 (kq≤k)∧Drawn0 w wc)
 case first =>
  have H:=HC2.out
  clear HC2
  by_cases c3:a0=1
  ·rw [if_pos c3] at H
   have c3b0:(a0 == 1)=true:=beq_iff_eq.mpr c3
   have c3b1:(a0 != 1)=false:=bne_eq_false_iff_eq.mpr c3
   clear c3
   (first | rw [c3b0] | (simp only [i64_w,i32_w];rw [c3b0]) | skip)
   have H':=Aside0.mk H
   clear H
   go_wp2
   go_meet
   case rel=>exact ⟨_,((a0 == 1)),(by first | rfl | (simp;done) | (simp [*];done) | (simp [bne];done)),H',⟨by first | omega | exact Nat.le_refl _⟩,by repeat (first | exact Drawn0.refl _ | apply Drawn0.step)⟩
  ·rw [if_neg c3] at H
   have c3b0:(a0 == 1)=false:=beq_eq_false_iff_ne.mpr c3
   have c3b1:(a0 != 1)=true:=bne_iff_ne.mpr c3
   (first | rw [c3b0] | (simp only [i64_w,i32_w];rw [c3b0]) | skip)
   by_cases c4:a0=2
   ·rw [if_pos c4] at H
    have c4b0:(a0 == 2)=true:=beq_iff_eq.mpr c4
    have c4b1:(a0 != 2)=false:=bne_eq_false_iff_eq.mpr c4
    clear c4
    have H':=Aside0.mk H
    clear H
    go_wp2
    go_meet
    case rel=>exact ⟨_,((a0 == 2)),(by first | rfl | (simp;done) | (simp [*];done) | (simp [bne];done)),H',⟨by first | omega | exact Nat.le_refl _⟩,by repeat (first | exact Drawn0.refl _ | apply Drawn0.step)⟩
   ·rw [if_neg c4] at H
    have c4b0:(a0 == 2)=false:=beq_eq_false_iff_ne.mpr c4
    have c4b1:(a0 != 2)=true:=bne_iff_ne.mpr c4
    by_cases c5:a0=3
    ·rw [if_pos c5] at H
     have c5b0:(a0 == 3)=true:=beq_iff_eq.mpr c5
     have c5b1:(a0 != 3)=false:=bne_eq_false_iff_eq.mpr c5
     clear c5
     have H':=Aside0.mk H
     clear H
     go_wp2
     go_meet
     case rel=>exact ⟨_,((a0 == 3)),(by first | rfl | (simp;done) | (simp [*];done) | (simp [bne];done)),H',⟨by first | omega | exact Nat.le_refl _⟩,by repeat (first | exact Drawn0.refl _ | apply Drawn0.step)⟩
    ·rw [if_neg c5] at H
     have c5b0:(a0 == 3)=false:=beq_eq_false_iff_ne.mpr c5
     have c5b1:(a0 != 3)=true:=bne_iff_ne.mpr c5
     by_cases c6:a0=5
     ·rw [if_pos c6] at H
      have c6b0:(a0 == 5)=true:=beq_iff_eq.mpr c6
      have c6b1:(a0 != 5)=false:=bne_eq_false_iff_eq.mpr c6
      clear c6
      have H':=Aside0.mk H
      clear H
      go_wp2
      go_meet
      case rel=>exact ⟨_,((a0 == 5)),(by first | rfl | (simp;done) | (simp [*];done) | (simp [bne];done)),H',⟨by first | omega | exact Nat.le_refl _⟩,by repeat (first | exact Drawn0.refl _ | apply Drawn0.step)⟩
     ·rw [if_neg c6] at H
      have c6b0:(a0 == 5)=false:=beq_eq_false_iff_ne.mpr c6
      have c6b1:(a0 != 5)=true:=bne_iff_ne.mpr c6
      have H':=Aside0.mk H
      clear H
      go_wp2
      go_meet
      case rel=>exact ⟨_,((a0 == 14)),(by first | rfl | (simp;done) | (simp [*];done) | (simp [bne];done)),H',⟨by first | omega | exact Nat.le_refl _⟩,by repeat (first | exact Drawn0.refl _ | apply Drawn0.step)⟩
 case rest =>
  clear HC2
  try clear p2
  try clear c3
  try clear c3b0
  try clear c3b1
  try clear c4
  try clear c4b0
  try clear c4b1
  try clear c5
  try clear c5b0
  try clear c5b1
  try clear c6
  try clear c6b0
  try clear c6b1
  obtain ⟨kq,x4_1,rfl,HA,HJ1,⟨mc1,rfl⟩⟩:=hcut
  cases kq with
  | zero=>exact absurd HA.out (by simp [Y16.j0])
  | succ kj1 =>
   have H:=HA.out
   clear HA
   simp only [Y16.j0] at H
   by_cases c7:x4_1=true
   ·subst c7
    have H1:(some true)=some r:=by rw [if_pos rfl] at H;exact H
    clear H
    have H:=H1
    clear H1
    obtain rfl:=Option.some.inj H
    go_wp2
    go_ret
    exact ⟨by first | rfl | (simp;done) | (simp [*];done) | (simp [bne];done),by repeat (first | exact Drawn0.refl _ | apply Drawn0.step)⟩
   ·replace c7:=Bool.eq_false_iff.mpr c7
    subst c7
    have H1:(some false)=some r:=by rw [if_neg (show ¬ (false=true) by decide)] at H;exact H
    clear H
    have H:=H1
    clear H1
    obtain rfl:=Option.some.inj H
    go_wp2
    go_ret
    exact ⟨by first | rfl | (simp;done) | (simp [*];done) | (simp [bne];done),by repeat (first | exact Drawn0.refl _ | apply Drawn0.step)⟩


/-! ### Y35: function 38 -/
def Y35.f (a0:Int):Option (Bool):=(Y22.f a0 (-1) 10000).bind fun t172=>(some t172)
set_option maxHeartbeats 8000000 in
set_option maxRecDepth 100000 in
theorem Y35.calls (a0:Int) (r:Bool) (w:World) (h:Y35.f a0=some r) :
  Calls Tryd.prog 38 #[.int .i64 a0] w fun e w'=>e = .returned (.bool r)∧Drawn0 w w':=by
 have H:((Y22.f a0 (-1) 10000).bind fun t172=>(some t172))=some r:=h
 clear h
 replace H:=Option.bind_eq_some_iff.mp H
 obtain ⟨t172,A20,H⟩:=H
 replace H:(some t172)=some r:=H
 have A2:=Aside0.mk A20
 clear A20
 obtain rfl:=Option.some.inj H
 go_enter Tryd.func38,Tryd.ntmps38
 go_wp2_with (first | ((with_reducible refine gate_callee (f:=36) rfl ?_);refine goesL_ (some 4) rfl rfl Tryd.func36 (by kernel_rfl) rfl #[.int .i64 a0,.int .i64 (-1),.int .i64 10000] rfl (by (try simp only [List.map_toArray,List.map_cons,List.map_nil]);first | done | rfl | (simp only [List.length_drop,List.length_take];rfl)) ?_;(with_reducible refine (Y22.calls a0 (-1) 10000 t172 _ A2.out).mono ?_);rintro e w' ⟨rfl,⟨nd,rfl⟩⟩;refine ⟨_,rfl,?_⟩))
 go_ret
 exact ⟨by first | rfl | (simp;done) | (simp [*];done) | (simp [bne];done),by repeat (first | exact Drawn0.refl _ | apply Drawn0.step)⟩


/-! ### Y19: function 41 -/
def Y19.f (a0:Int) (a1:Bool):Option (Bool):=if a0=0 then (some true) else (if a1=true then ((Y22.f a0 0 999999).bind fun t173=>(some t173)) else (some false))
set_option maxHeartbeats 8000000 in
set_option maxRecDepth 100000 in
theorem Y19.calls (a0:Int) (a1:Bool) (r:Bool) (w:World) (h:Y19.f a0 a1=some r) :
  Calls Tryd.prog 41 #[.int .i64 a0,.bool a1] w fun e w'=>e = .returned (.bool r)∧Drawn0 w w':=by
 have H:(if a0=0 then (some true) else (if a1=true then ((Y22.f a0 0 999999).bind fun t173=>(some t173)) else (some false)))=some r:=h
 clear h
 by_cases c3:a0=0
 ·rw [if_pos c3] at H
  have c3b0:(a0 == 0)=true:=beq_iff_eq.mpr c3
  have c3b1:(a0 != 0)=false:=bne_eq_false_iff_eq.mpr c3
  clear c3
  obtain rfl:=Option.some.inj H
  go_enter Tryd.func41,Tryd.ntmps41
  go_wp2
  go_ret
  exact ⟨by first | rfl | (simp;done) | (simp [*];done) | (simp [bne];done),by repeat (first | exact Drawn0.refl _ | apply Drawn0.step)⟩
 ·rw [if_neg c3] at H
  have c3b0:(a0 == 0)=false:=beq_eq_false_iff_ne.mpr c3
  have c3b1:(a0 != 0)=true:=bne_iff_ne.mpr c3
  by_cases c4:a1=true
  ·subst c4
   have H1:((Y22.f a0 0 999999).bind fun t173=>(some t173))=some r:=by rw [if_pos rfl] at H;exact H
   clear H
   have H:=H1
   clear H1
   replace H:=Option.bind_eq_some_iff.mp H
   obtain ⟨t173,A50,H⟩:=H
   replace H:(some t173)=some r:=H
   have A5:=Aside0.mk A50
   clear A50
   obtain rfl:=Option.some.inj H
   go_enter Tryd.func41,Tryd.ntmps41
   go_wp2_with (first | (go_at_call 36;(with_reducible refine (Y22.calls a0 0 999999 t173 _ A5.out).mono ?_);rintro e w' ⟨rfl,⟨nd,rfl⟩⟩))
   go_ret
   exact ⟨by first | rfl | (simp;done) | (simp [*];done) | (simp [bne];done),by repeat (first | exact Drawn0.refl _ | apply Drawn0.step)⟩
  ·replace c4:=Bool.eq_false_iff.mpr c4
   subst c4
   have H1:(some false)=some r:=by rw [if_neg (show ¬ (false=true) by decide)] at H;exact H
   clear H
   have H:=H1
   clear H1
   obtain rfl:=Option.some.inj H
   go_enter Tryd.func41,Tryd.ntmps41
   go_wp2
   go_ret
   exact ⟨by first | rfl | (simp;done) | (simp [*];done) | (simp [bne];done),by repeat (first | exact Drawn0.refl _ | apply Drawn0.step)⟩


/-! ### Y41: function 50 -/
def Y41.f (a0:ByteArray):Option (Int):=some (a0.size:Int)
set_option maxHeartbeats 8000000 in
set_option maxRecDepth 100000 in
theorem Y41.calls (a0:ByteArray) (r:Int) (w:World) (h:Y41.f a0=some r) :
  Calls Tryd.prog 50 #[.string a0] w fun e w'=>e = .returned (.int .i64 r)∧Drawn0 w w':=by
 have H:(some (a0.size:Int))=some r:=h
 clear h
 obtain rfl:=Option.some.inj H
 go_enter Tryd.func50,Tryd.ntmps50
 go_wp2
 go_ret
 exact ⟨by first | rfl | (simp;done) | (simp [*];done) | (simp [bne];done),by repeat (first | exact Drawn0.refl _ | apply Drawn0.step)⟩


/-! ### Y6: function 42 -/
mutual
def Y6.j0:Nat→ByteArray→Bool→Option (Bool)
 | 0,_,_=>none
 | k+1,x0,x18=>if x18=true then (some false) else (Y6.l0 k x0 (x0.size:Int) 0)
def Y6.l0:Nat→ByteArray→Int→Int→Option (Bool)
 | 0,_,_,_=>none
 | k+1,x0,x20,x21=>if x21<x20 then (if 0≤x21 then (if x21<(x0.size:Int) then (if (bt x0 x21)≥97 then (if (bt x0 x21)≤122 then (Y6.l0 k x0 x20 (wrap64 (x21+1))) else (if (bt x0 x21)≥48 then (if (bt x0 x21)≤57 then (Y6.l0 k x0 x20 (wrap64 (x21+1))) else (if ((bt x0 x21)=95) then (Y6.l0 k x0 x20 (wrap64 (x21+1))) else (some false))) else (if ((bt x0 x21)=95) then (Y6.l0 k x0 x20 (wrap64 (x21+1))) else (some false)))) else (if (bt x0 x21)≥48 then (if (bt x0 x21)≤57 then (Y6.l0 k x0 x20 (wrap64 (x21+1))) else (if ((bt x0 x21)=95) then (Y6.l0 k x0 x20 (wrap64 (x21+1))) else (some false))) else (if ((bt x0 x21)=95) then (Y6.l0 k x0 x20 (wrap64 (x21+1))) else (some false)))) else (none)) else (none)) else (some true)
end
def Y6.f (k:Nat) (a0:ByteArray):Option (Bool):=(Y41.f a0).bind fun t174=>((Y22.f t174 1 20).bind fun t175=>(if t175=true then (if 0<(a0.size:Int) then (if (bt a0 0)<97 then (Y6.j0 k a0 true) else (Y6.j0 k a0 (decide ((bt a0 0)>122)))) else (none)) else (Y6.j0 k a0 true)))
theorem Y6.mono_l:∀ k,(∀ y0 y1,LeO (Y6.j0 k y0 y1) (Y6.j0 (k+1) y0 y1))∧(∀ y0 y1 y2,LeO (Y6.l0 k y0 y1 y2) (Y6.l0 (k+1) y0 y1 y2))
 | 0=>⟨fun _ _ r h=>by simp [Y6.j0] at h,fun _ _ _ r h=>by simp [Y6.l0] at h⟩
 | k+1=>by
  obtain ⟨ih0,ih1⟩:=Y6.mono_l k
  refine ⟨?_,?_⟩
  ·intro y0 y1
   unfold Y6.j0
   repeat' first
   | (with_reducible exact ih0 _ _)
   | (with_reducible exact ih1 _ _ _)
   | (with_reducible exact LeO.refl _)
   | (with_reducible exact LeO.none _)
   | (with_reducible refine LeO.ite ?_ ?_)
   | (with_reducible refine LeO.bind ?_ (fun _=>?_))
   | exact ih0 _ _
   | exact ih1 _ _ _
   | exact LeO.none _
   | refine LeO.ite ?_ ?_
   | refine LeO.bind ?_ (fun _=>?_)
  ·intro y0 y1 y2
   unfold Y6.l0
   repeat' first
   | (with_reducible exact ih0 _ _)
   | (with_reducible exact ih1 _ _ _)
   | (with_reducible exact LeO.refl _)
   | (with_reducible exact LeO.none _)
   | (with_reducible refine LeO.ite ?_ ?_)
   | (with_reducible refine LeO.bind ?_ (fun _=>?_))
   | exact ih0 _ _
   | exact ih1 _ _ _
   | exact LeO.none _
   | refine LeO.ite ?_ ?_
   | refine LeO.bind ?_ (fun _=>?_)
theorem Y6.mono:∀ a0 k,LeO (Y6.f k a0) (Y6.f (k+1) a0):=by
 intro a0 k
 obtain ⟨ih0,ih1⟩:=Y6.mono_l k
 unfold Y6.f
 repeat' first
   | (with_reducible exact ih0 _ _)
   | (with_reducible exact ih1 _ _ _)
   | (with_reducible exact LeO.refl _)
   | (with_reducible exact LeO.none _)
   | (with_reducible refine LeO.ite ?_ ?_)
   | (with_reducible refine LeO.bind ?_ (fun _=>?_))
   | exact ih0 _ _
   | exact ih1 _ _ _
   | exact LeO.none _
   | refine LeO.ite ?_ ?_
   | refine LeO.bind ?_ (fun _=>?_)
set_option maxHeartbeats 8000000 in
set_option maxRecDepth 100000 in
theorem Y6.calls (k:Nat) (a0:ByteArray) (r:Bool) (w:World) (h:Y6.f k a0=some r) :
  Calls Tryd.prog 42 #[.string a0] w fun e w'=>e = .returned (.bool r)∧Drawn0 w w':=by
 have H:((Y41.f a0).bind fun t174=>((Y22.f t174 1 20).bind fun t175=>(if t175=true then (if 0<(a0.size:Int) then (if (bt a0 0)<97 then (Y6.j0 k a0 true) else (Y6.j0 k a0 (decide ((bt a0 0)>122)))) else (none)) else (Y6.j0 k a0 true))))=some r:=h
 clear h
 have HC2:=Aside0.mk H
 clear H
 go_enter Tryd.func42,Tryd.ntmps42
 go_upto_region 1 with (fail)
 go_cut [18] (fun v18 wc=>∃ (kq:Nat) (x18_1:Bool),v18 = .bool x18_1∧Aside0 (Y6.j0 kq a0 x18_1=some r)∧Aside0 (kq≤k)∧Drawn0 w wc)
 case first =>
  have H:=HC2.out
  clear HC2
  replace H:=Option.bind_eq_some_iff.mp H
  obtain ⟨t174,A30,H⟩:=H
  replace H:((Y22.f t174 1 20).bind fun t175=>(if t175=true then (if 0<(a0.size:Int) then (if (bt a0 0)<97 then (Y6.j0 k a0 true) else (Y6.j0 k a0 (decide ((bt a0 0)>122)))) else (none)) else (Y6.j0 k a0 true)))=some r:=H
  have A3:=Aside0.mk A30
  clear A30
  replace H:=Option.bind_eq_some_iff.mp H
  obtain ⟨t175,A40,H⟩:=H
  replace H:(if t175=true then (if 0<(a0.size:Int) then (if (bt a0 0)<97 then (Y6.j0 k a0 true) else (Y6.j0 k a0 (decide ((bt a0 0)>122)))) else (none)) else (Y6.j0 k a0 true))=some r:=H
  have A4:=Aside0.mk A40
  clear A40
  by_cases c5:t175=true
  ·subst c5
   have H1:(if 0<(a0.size:Int) then (if (bt a0 0)<97 then (Y6.j0 k a0 true) else (Y6.j0 k a0 (decide ((bt a0 0)>122)))) else (none))=some r:=by rw [if_pos rfl] at H;exact H
   clear H
   have H:=H1
   clear H1
   by_cases c6:0<(a0.size:Int)
   ·rw [if_pos c6] at H
    have c6b0:decide (0<(a0.size:Int))=true:=decide_eq_true c6
    have c6b1:decide (0<a0.size)=true:=decide_eq_true (by omega)
    clear c6
    (first | rw [c6b0] | (simp only [i64_w,i32_w];rw [c6b0]) | skip)
    by_cases c8:(bt a0 0)<97
    ·rw [if_pos c8] at H
     have c8b0:decide ((bt a0 0)<97)=true:=decide_eq_true c8
     clear c8
     have H':=Aside0.mk H
     clear H
     go_wp2_with (first | ((with_reducible refine gate_callee (f:=50) rfl ?_);refine goesL_ (some 6) rfl rfl Tryd.func50 (by kernel_rfl) rfl #[.string a0] rfl (by (try simp only [List.map_toArray,List.map_cons,List.map_nil]);first | done | rfl | (simp only [List.length_drop,List.length_take];rfl)) ?_;(with_reducible refine (Y41.calls a0 t174 _ A3.out).mono ?_);rintro e w' ⟨rfl,⟨nd,rfl⟩⟩;refine ⟨_,rfl,?_⟩) | ((with_reducible refine gate_callee (f:=36) rfl ?_);refine goesL_ (some 7) rfl rfl Tryd.func36 (by kernel_rfl) rfl #[.int .i64 t174,.int .i64 1,.int .i64 20] rfl (by (try simp only [List.map_toArray,List.map_cons,List.map_nil]);first | done | rfl | (simp only [List.length_drop,List.length_take];rfl)) ?_;(with_reducible refine (Y22.calls t174 1 20 true _ A4.out).mono ?_);rintro e w' ⟨rfl,⟨nd,rfl⟩⟩;refine ⟨_,rfl,?_⟩;have p7:0≤(0:Int):=(by omega);have q7:0<a0.size:=(by have:(0:Int)<(a0.size:Int):=of_decide_eq_true (by first | (with_reducible assumption) | assumption);omega);have hx7:∀ h:0<a0.size,((a0[0]'h).toNat:Int)=bt a0 0:=bt_at a0 0;clear p7;have qi7:(0<(a0.size:Int))=True:=eq_true (of_decide_eq_true (by first | (with_reducible assumption) | assumption));replace q7:=eq_true q7))
     go_meet
     case rel=>exact ⟨_,(true),(by first | rfl | (simp;done) | (simp [*];done) | (simp [bne];done)),H',⟨by first | omega | exact Nat.le_refl _⟩,by repeat (first | exact Drawn0.refl _ | apply Drawn0.step)⟩
    ·rw [if_neg c8] at H
     have c8b0:decide ((bt a0 0)<97)=false:=decide_eq_false c8
     clear c8
     have H':=Aside0.mk H
     clear H
     go_wp2_with (first | ((with_reducible refine gate_callee (f:=50) rfl ?_);refine goesL_ (some 6) rfl rfl Tryd.func50 (by kernel_rfl) rfl #[.string a0] rfl (by (try simp only [List.map_toArray,List.map_cons,List.map_nil]);first | done | rfl | (simp only [List.length_drop,List.length_take];rfl)) ?_;(with_reducible refine (Y41.calls a0 t174 _ A3.out).mono ?_);rintro e w' ⟨rfl,⟨nd,rfl⟩⟩;refine ⟨_,rfl,?_⟩) | ((with_reducible refine gate_callee (f:=36) rfl ?_);refine goesL_ (some 7) rfl rfl Tryd.func36 (by kernel_rfl) rfl #[.int .i64 t174,.int .i64 1,.int .i64 20] rfl (by (try simp only [List.map_toArray,List.map_cons,List.map_nil]);first | done | rfl | (simp only [List.length_drop,List.length_take];rfl)) ?_;(with_reducible refine (Y22.calls t174 1 20 true _ A4.out).mono ?_);rintro e w' ⟨rfl,⟨nd,rfl⟩⟩;refine ⟨_,rfl,?_⟩;have p7:0≤(0:Int):=(by omega);have q7:0<a0.size:=(by have:(0:Int)<(a0.size:Int):=of_decide_eq_true (by first | (with_reducible assumption) | assumption);omega);have hx7:∀ h:0<a0.size,((a0[0]'h).toNat:Int)=bt a0 0:=bt_at a0 0;clear p7;have qi7:(0<(a0.size:Int))=True:=eq_true (of_decide_eq_true (by first | (with_reducible assumption) | assumption));replace q7:=eq_true q7;have p9:0≤(0:Int):=(by omega);have q9:0<a0.size:=(by have:(0:Int)<(a0.size:Int):=of_decide_eq_true (by first | (with_reducible assumption) | assumption);omega);have hx9:∀ h:0<a0.size,((a0[0]'h).toNat:Int)=bt a0 0:=bt_at a0 0;clear p9;have qi9:(0<(a0.size:Int))=True:=eq_true (of_decide_eq_true (by first | (with_reducible assumption) | assumption));replace q9:=eq_true q9))
     go_meet
     case rel=>exact ⟨_,(decide ((bt a0 0)>122)),(by first | rfl | (simp;done) | (simp [*];done) | (simp [bne];done)),H',⟨by first | omega | exact Nat.le_refl _⟩,by repeat (first | exact Drawn0.refl _ | apply Drawn0.step)⟩
   ·rw [if_neg c6] at H
    exact absurd H (by simp)
  ·replace c5:=Bool.eq_false_iff.mpr c5
   subst c5
   have H1:(Y6.j0 k a0 true)=some r:=by rw [if_neg (show ¬ (false=true) by decide)] at H;exact H
   clear H
   have H:=H1
   clear H1
   have H':=Aside0.mk H
   clear H
   go_wp2_with (first | ((with_reducible refine gate_callee (f:=50) rfl ?_);refine goesL_ (some 6) rfl rfl Tryd.func50 (by kernel_rfl) rfl #[.string a0] rfl (by (try simp only [List.map_toArray,List.map_cons,List.map_nil]);first | done | rfl | (simp only [List.length_drop,List.length_take];rfl)) ?_;(with_reducible refine (Y41.calls a0 t174 _ A3.out).mono ?_);rintro e w' ⟨rfl,⟨nd,rfl⟩⟩;refine ⟨_,rfl,?_⟩) | ((with_reducible refine gate_callee (f:=36) rfl ?_);refine goesL_ (some 7) rfl rfl Tryd.func36 (by kernel_rfl) rfl #[.int .i64 t174,.int .i64 1,.int .i64 20] rfl (by (try simp only [List.map_toArray,List.map_cons,List.map_nil]);first | done | rfl | (simp only [List.length_drop,List.length_take];rfl)) ?_;(with_reducible refine (Y22.calls t174 1 20 false _ A4.out).mono ?_);rintro e w' ⟨rfl,⟨nd,rfl⟩⟩;refine ⟨_,rfl,?_⟩))
   go_meet
   case rel=>exact ⟨_,(true),(by first | rfl | (simp;done) | (simp [*];done) | (simp [bne];done)),H',⟨by first | omega | exact Nat.le_refl _⟩,by repeat (first | exact Drawn0.refl _ | apply Drawn0.step)⟩
 case rest =>
  clear HC2
  try clear p2
  try clear c3
  try clear c4
  try clear c5
  try clear c6
  try clear c6b0
  try clear c6b1
  try clear p7
  try clear q7
  try clear hx7
  try clear qi7
  try clear c8
  try clear c8b0
  try clear p9
  try clear q9
  try clear hx9
  try clear qi9
  try clear p7
  try clear p9
  try clear q7
  try clear q9
  obtain ⟨kq,x18_1,rfl,HA,HJ1,⟨mc1,rfl⟩⟩:=hcut
  cases kq with
  | zero=>exact absurd HA.out (by simp [Y6.j0])
  | succ kj1 =>
   have H:=HA.out
   clear HA
   simp only [Y6.j0] at H
   by_cases c10:x18_1=true
   ·subst c10
    have H1:(some false)=some r:=by rw [if_pos rfl] at H;exact H
    clear H
    have H:=H1
    clear H1
    obtain rfl:=Option.some.inj H
    go_wp2
    go_ret
    exact ⟨by first | rfl | (simp;done) | (simp [*];done) | (simp [bne];done),by repeat (first | exact Drawn0.refl _ | apply Drawn0.step)⟩
   ·replace c10:=Bool.eq_false_iff.mpr c10
    subst c10
    have H1:(Y6.l0 kj1 a0 (a0.size:Int) 0)=some r:=by rw [if_neg (show ¬ (false=true) by decide)] at H;exact H
    clear H
    have H:=H1
    clear H1
    have H':=Aside0.mk H
    clear H
    go_wp2
    go_loopg [21] kj1 (fun kq v21 w'=>∃ (x21_2:Int),v21 = .int .i64 x21_2∧Aside0 (Y6.l0 kq a0 (a0.size:Int) x21_2=some r)∧Aside0 (kq≤kj1)∧Drawn0 w w')
    case atStart=>exact ⟨(0),(by first | rfl | (simp;done) | (simp [*];done) | (simp [bne];done)),H',⟨Nat.le_refl _⟩,by repeat (first | exact Drawn0.refl _ | apply Drawn0.step)⟩
    case round =>
     clear H'
     try clear c1
     try clear p2
     try clear c3
     try clear c4
     try clear c5
     try clear c6
     try clear c6b0
     try clear c6b1
     try clear p7
     try clear q7
     try clear hx7
     try clear qi7
     try clear c8
     try clear c8b0
     try clear p9
     try clear q9
     try clear hx9
     try clear qi9
     try clear c10
     try clear p2
     try clear p7
     try clear p9
     try clear q7
     try clear q9
     obtain ⟨x21_2,rfl,HA,HK2,⟨m2,rfl⟩⟩:=hrel
     cases gk with
     | zero=>exact absurd HA.out (by simp [Y6.l0])
     | succ k2 =>
      have H:=HA.out
      clear HA
      simp only [Y6.l0] at H
      by_cases c11:x21_2<(a0.size:Int)
      ·rw [if_pos c11] at H
       have c11b0:decide (x21_2<(a0.size:Int))=true:=decide_eq_true c11
       clear c11
       by_cases c12:0≤x21_2
       ·rw [if_pos c12] at H
        have c12b0:decide (0≤x21_2)=true:=decide_eq_true c12
        clear c12
        by_cases c13:x21_2<(a0.size:Int)
        ·rw [if_pos c13] at H
         have c13b0:decide (x21_2<(a0.size:Int))=true:=decide_eq_true c13
         clear c13
         by_cases c15:(bt a0 x21_2)≥97
         ·rw [if_pos c15] at H
          have c15b0:decide (97≤(bt a0 x21_2))=true:=decide_eq_true c15
          clear c15
          by_cases c16:(bt a0 x21_2)≤122
          ·rw [if_pos c16] at H
           have c16b0:decide ((bt a0 x21_2)≤122)=true:=decide_eq_true c16
           clear c16
           have H':=Aside0.mk H
           clear H
           have p14:0≤(x21_2:Int):=of_decide_eq_true (by first | (with_reducible assumption) | assumption)
           have q14:x21_2<(a0.size:Int):=of_decide_eq_true (by first | (with_reducible assumption) | assumption)
           have hx14:=bt_at a0 x21_2
           replace p14:=eq_true p14
           replace q14:=eq_true q14
           go_wp2
           go_roundg k2
           case measure=>have:=HJ1.out;have:=HK2.out;omega
           case rel=>exact ⟨(wrap64 (x21_2+1)),(by first | rfl | (simp;done) | (simp [*];done) | (simp [bne];done)),H',⟨by have:=HJ1.out;have:=HK2.out;omega⟩,by repeat (first | exact Drawn0.refl _ | apply Drawn0.step)⟩
          ·rw [if_neg c16] at H
           have c16b0:decide ((bt a0 x21_2)≤122)=false:=decide_eq_false c16
           clear c16
           by_cases c17:(bt a0 x21_2)≥48
           ·rw [if_pos c17] at H
            have c17b0:decide (48≤(bt a0 x21_2))=true:=decide_eq_true c17
            clear c17
            by_cases c18:(bt a0 x21_2)≤57
            ·rw [if_pos c18] at H
             have c18b0:decide ((bt a0 x21_2)≤57)=true:=decide_eq_true c18
             clear c18
             have H':=Aside0.mk H
             clear H
             have p14:0≤(x21_2:Int):=of_decide_eq_true (by first | (with_reducible assumption) | assumption)
             have q14:x21_2<(a0.size:Int):=of_decide_eq_true (by first | (with_reducible assumption) | assumption)
             have hx14:=bt_at a0 x21_2
             replace p14:=eq_true p14
             replace q14:=eq_true q14
             go_wp2
             go_roundg k2
             case measure=>have:=HJ1.out;have:=HK2.out;omega
             case rel=>exact ⟨(wrap64 (x21_2+1)),(by first | rfl | (simp;done) | (simp [*];done) | (simp [bne];done)),H',⟨by have:=HJ1.out;have:=HK2.out;omega⟩,by repeat (first | exact Drawn0.refl _ | apply Drawn0.step)⟩
            ·rw [if_neg c18] at H
             have c18b0:decide ((bt a0 x21_2)≤57)=false:=decide_eq_false c18
             clear c18
             by_cases c19:((bt a0 x21_2)=95)
             ·rw [if_pos c19] at H
              have c19b0:((bt a0 x21_2) == 95)=true:=beq_iff_eq.mpr c19
              have c19b1:((bt a0 x21_2) != 95)=false:=bne_eq_false_iff_eq.mpr c19
              clear c19
              have H':=Aside0.mk H
              clear H
              have p14:0≤(x21_2:Int):=of_decide_eq_true (by first | (with_reducible assumption) | assumption)
              have q14:x21_2<(a0.size:Int):=of_decide_eq_true (by first | (with_reducible assumption) | assumption)
              have hx14:=bt_at a0 x21_2
              replace p14:=eq_true p14
              replace q14:=eq_true q14
              go_wp2
              go_roundg k2
              case measure=>have:=HJ1.out;have:=HK2.out;omega
              case rel=>exact ⟨(wrap64 (x21_2+1)),(by first | rfl | (simp;done) | (simp [*];done) | (simp [bne];done)),H',⟨by have:=HJ1.out;have:=HK2.out;omega⟩,by repeat (first | exact Drawn0.refl _ | apply Drawn0.step)⟩
             ·rw [if_neg c19] at H
              have c19b0:((bt a0 x21_2) == 95)=false:=beq_eq_false_iff_ne.mpr c19
              have c19b1:((bt a0 x21_2) != 95)=true:=bne_iff_ne.mpr c19
              obtain rfl:=Option.some.inj H
              have p14:0≤(x21_2:Int):=of_decide_eq_true (by first | (with_reducible assumption) | assumption)
              have q14:x21_2<(a0.size:Int):=of_decide_eq_true (by first | (with_reducible assumption) | assumption)
              have hx14:=bt_at a0 x21_2
              replace p14:=eq_true p14
              replace q14:=eq_true q14
              go_wp2
              go_ret
              exact ⟨by first | rfl | (simp;done) | (simp [*];done) | (simp [bne];done),by repeat (first | exact Drawn0.refl _ | apply Drawn0.step)⟩
           ·rw [if_neg c17] at H
            have c17b0:decide (48≤(bt a0 x21_2))=false:=decide_eq_false c17
            clear c17
            by_cases c20:((bt a0 x21_2)=95)
            ·rw [if_pos c20] at H
             have c20b0:((bt a0 x21_2) == 95)=true:=beq_iff_eq.mpr c20
             have c20b1:((bt a0 x21_2) != 95)=false:=bne_eq_false_iff_eq.mpr c20
             clear c20
             have H':=Aside0.mk H
             clear H
             have p14:0≤(x21_2:Int):=of_decide_eq_true (by first | (with_reducible assumption) | assumption)
             have q14:x21_2<(a0.size:Int):=of_decide_eq_true (by first | (with_reducible assumption) | assumption)
             have hx14:=bt_at a0 x21_2
             replace p14:=eq_true p14
             replace q14:=eq_true q14
             go_wp2
             go_roundg k2
             case measure=>have:=HJ1.out;have:=HK2.out;omega
             case rel=>exact ⟨(wrap64 (x21_2+1)),(by first | rfl | (simp;done) | (simp [*];done) | (simp [bne];done)),H',⟨by have:=HJ1.out;have:=HK2.out;omega⟩,by repeat (first | exact Drawn0.refl _ | apply Drawn0.step)⟩
            ·rw [if_neg c20] at H
             have c20b0:((bt a0 x21_2) == 95)=false:=beq_eq_false_iff_ne.mpr c20
             have c20b1:((bt a0 x21_2) != 95)=true:=bne_iff_ne.mpr c20
             obtain rfl:=Option.some.inj H
             have p14:0≤(x21_2:Int):=of_decide_eq_true (by first | (with_reducible assumption) | assumption)
             have q14:x21_2<(a0.size:Int):=of_decide_eq_true (by first | (with_reducible assumption) | assumption)
             have hx14:=bt_at a0 x21_2
             replace p14:=eq_true p14
             replace q14:=eq_true q14
             go_wp2
             go_ret
             exact ⟨by first | rfl | (simp;done) | (simp [*];done) | (simp [bne];done),by repeat (first | exact Drawn0.refl _ | apply Drawn0.step)⟩
         ·rw [if_neg c15] at H
          have c15b0:decide (97≤(bt a0 x21_2))=false:=decide_eq_false c15
          clear c15
          by_cases c21:(bt a0 x21_2)≥48
          ·rw [if_pos c21] at H
           have c21b0:decide (48≤(bt a0 x21_2))=true:=decide_eq_true c21
           clear c21
           by_cases c22:(bt a0 x21_2)≤57
           ·rw [if_pos c22] at H
            have c22b0:decide ((bt a0 x21_2)≤57)=true:=decide_eq_true c22
            clear c22
            have H':=Aside0.mk H
            clear H
            have p14:0≤(x21_2:Int):=of_decide_eq_true (by first | (with_reducible assumption) | assumption)
            have q14:x21_2<(a0.size:Int):=of_decide_eq_true (by first | (with_reducible assumption) | assumption)
            have hx14:=bt_at a0 x21_2
            replace p14:=eq_true p14
            replace q14:=eq_true q14
            go_wp2
            go_roundg k2
            case measure=>have:=HJ1.out;have:=HK2.out;omega
            case rel=>exact ⟨(wrap64 (x21_2+1)),(by first | rfl | (simp;done) | (simp [*];done) | (simp [bne];done)),H',⟨by have:=HJ1.out;have:=HK2.out;omega⟩,by repeat (first | exact Drawn0.refl _ | apply Drawn0.step)⟩
           ·rw [if_neg c22] at H
            have c22b0:decide ((bt a0 x21_2)≤57)=false:=decide_eq_false c22
            clear c22
            by_cases c23:((bt a0 x21_2)=95)
            ·rw [if_pos c23] at H
             have c23b0:((bt a0 x21_2) == 95)=true:=beq_iff_eq.mpr c23
             have c23b1:((bt a0 x21_2) != 95)=false:=bne_eq_false_iff_eq.mpr c23
             clear c23
             have H':=Aside0.mk H
             clear H
             have p14:0≤(x21_2:Int):=of_decide_eq_true (by first | (with_reducible assumption) | assumption)
             have q14:x21_2<(a0.size:Int):=of_decide_eq_true (by first | (with_reducible assumption) | assumption)
             have hx14:=bt_at a0 x21_2
             replace p14:=eq_true p14
             replace q14:=eq_true q14
             go_wp2
             go_roundg k2
             case measure=>have:=HJ1.out;have:=HK2.out;omega
             case rel=>exact ⟨(wrap64 (x21_2+1)),(by first | rfl | (simp;done) | (simp [*];done) | (simp [bne];done)),H',⟨by have:=HJ1.out;have:=HK2.out;omega⟩,by repeat (first | exact Drawn0.refl _ | apply Drawn0.step)⟩
            ·rw [if_neg c23] at H
             have c23b0:((bt a0 x21_2) == 95)=false:=beq_eq_false_iff_ne.mpr c23
             have c23b1:((bt a0 x21_2) != 95)=true:=bne_iff_ne.mpr c23
             obtain rfl:=Option.some.inj H
             have p14:0≤(x21_2:Int):=of_decide_eq_true (by first | (with_reducible assumption) | assumption)
             have q14:x21_2<(a0.size:Int):=of_decide_eq_true (by first | (with_reducible assumption) | assumption)
             have hx14:=bt_at a0 x21_2
             replace p14:=eq_true p14
             replace q14:=eq_true q14
             go_wp2
             go_ret
             exact ⟨by first | rfl | (simp;done) | (simp [*];done) | (simp [bne];done),by repeat (first | exact Drawn0.refl _ | apply Drawn0.step)⟩
          ·rw [if_neg c21] at H
           have c21b0:decide (48≤(bt a0 x21_2))=false:=decide_eq_false c21
           clear c21
           by_cases c24:((bt a0 x21_2)=95)
           ·rw [if_pos c24] at H
            have c24b0:((bt a0 x21_2) == 95)=true:=beq_iff_eq.mpr c24
            have c24b1:((bt a0 x21_2) != 95)=false:=bne_eq_false_iff_eq.mpr c24
            clear c24
            have H':=Aside0.mk H
            clear H
            have p14:0≤(x21_2:Int):=of_decide_eq_true (by first | (with_reducible assumption) | assumption)
            have q14:x21_2<(a0.size:Int):=of_decide_eq_true (by first | (with_reducible assumption) | assumption)
            have hx14:=bt_at a0 x21_2
            replace p14:=eq_true p14
            replace q14:=eq_true q14
            go_wp2
            go_roundg k2
            case measure=>have:=HJ1.out;have:=HK2.out;omega
            case rel=>exact ⟨(wrap64 (x21_2+1)),(by first | rfl | (simp;done) | (simp [*];done) | (simp [bne];done)),H',⟨by have:=HJ1.out;have:=HK2.out;omega⟩,by repeat (first | exact Drawn0.refl _ | apply Drawn0.step)⟩
           ·rw [if_neg c24] at H
            have c24b0:((bt a0 x21_2) == 95)=false:=beq_eq_false_iff_ne.mpr c24
            have c24b1:((bt a0 x21_2) != 95)=true:=bne_iff_ne.mpr c24
            obtain rfl:=Option.some.inj H
            have p14:0≤(x21_2:Int):=of_decide_eq_true (by first | (with_reducible assumption) | assumption)
            have q14:x21_2<(a0.size:Int):=of_decide_eq_true (by first | (with_reducible assumption) | assumption)
            have hx14:=bt_at a0 x21_2
            replace p14:=eq_true p14
            replace q14:=eq_true q14
            go_wp2
            go_ret
            exact ⟨by first | rfl | (simp;done) | (simp [*];done) | (simp [bne];done),by repeat (first | exact Drawn0.refl _ | apply Drawn0.step)⟩
        ·rw [if_neg c13] at H
         exact absurd H (by simp)
       ·rw [if_neg c12] at H
        exact absurd H (by simp)
      ·rw [if_neg c11] at H
       have c11b0:decide (x21_2<(a0.size:Int))=false:=decide_eq_false c11
       clear c11
       obtain rfl:=Option.some.inj H
       go_wp2
       go_ret
       exact ⟨by first | rfl | (simp;done) | (simp [*];done) | (simp [bne];done),by repeat (first | exact Drawn0.refl _ | apply Drawn0.step)⟩


/-! ### Y32: function 62 -/
def Y32.f (a0:ByteArray) (a1:Int):Option (Int):=some (Lib.indexByte a0.data.toList a1.toNat.toUInt8)
set_option maxHeartbeats 1000000 in
set_option maxRecDepth 100000 in
theorem Y32.calls (a0:ByteArray) (a1:Int) (r:Int) (w:World) (h:Y32.f a0 a1=some r) :
  Calls Tryd.prog 62 #[.string a0,.int .u8 a1] w fun e w'=>e = .returned (.int .i64 r)∧Drawn0 w w':=by
 obtain rfl:Lib.indexByte a0.data.toList a1.toNat.toUInt8=r:=Option.some.inj h
 clear h
 go_enter Tryd.func62,Tryd.ntmps62
 go_wp2
 rw [run_callFunc_extern Tryd.func75 (by kernel_rfl) (by kernel_rfl) (by kernel_rfl) (e:=Extern.BytealgIndexByte.indexByte) (by kernel_rfl),Lib.run_indexByteString]
 simp only [Result.andThen]
 rw [Oper.upon_value]
 go_wp2
 go_ret
 exact ⟨rfl,Drawn0.refl _⟩


/-! ### Y17: function 54 -/
def Y17.j0:Nat→ByteArray→ByteArray→Int→Bool→Option (Int)
 | 0,_,_,_,_=>none
 | k+1,x0,x1,x5,x16=>if x16=true then (some 0) else (if x5=1 then (if 0<(x1.size:Int) then ((Y32.f x0 (bt x1 0)).bind fun t178=>(some t178)) else (none)) else (none))
def Y17.f (k:Nat) (a0:ByteArray) (a1:ByteArray):Option (Int):=if (a1.size:Int)=0 then (Y17.j0 k a0 a1 (a1.size:Int) true) else (Y17.j0 k a0 a1 (a1.size:Int) (a1.toList == a0.toList))
theorem Y17.mono_l:∀ k,(∀ y0 y1 y2 y3,LeO (Y17.j0 k y0 y1 y2 y3) (Y17.j0 (k+1) y0 y1 y2 y3))
 | 0=>fun _ _ _ _ r h=>by simp [Y17.j0] at h
 | k+1=>by
  have ih0:=Y17.mono_l k
  ·intro y0 y1 y2 y3
   unfold Y17.j0
   repeat' first
   | (with_reducible exact ih0 _ _ _ _)
   | (with_reducible exact LeO.refl _)
   | (with_reducible exact LeO.none _)
   | (with_reducible refine LeO.ite ?_ ?_)
   | (with_reducible refine LeO.bind ?_ (fun _=>?_))
   | exact ih0 _ _ _ _
   | exact LeO.none _
   | refine LeO.ite ?_ ?_
   | refine LeO.bind ?_ (fun _=>?_)
theorem Y17.mono:∀ a0 a1 k,LeO (Y17.f k a0 a1) (Y17.f (k+1) a0 a1):=by
 intro a0 a1 k
 have ih0:=Y17.mono_l k
 unfold Y17.f
 repeat' first
   | (with_reducible exact ih0 _ _ _ _)
   | (with_reducible exact LeO.refl _)
   | (with_reducible exact LeO.none _)
   | (with_reducible refine LeO.ite ?_ ?_)
   | (with_reducible refine LeO.bind ?_ (fun _=>?_))
   | exact ih0 _ _ _ _
   | exact LeO.none _
   | refine LeO.ite ?_ ?_
   | refine LeO.bind ?_ (fun _=>?_)
set_option maxHeartbeats 8000000 in
set_option maxRecDepth 100000 in
theorem Y17.calls (k:Nat) (a0:ByteArray) (a1:ByteArray) (r:Int) (w:World) (h:Y17.f k a0 a1=some r) :
  Calls Tryd.prog 54 #[.string a0,.string a1] w fun e w'=>e = .returned (.int .i64 r)∧Drawn0 w w':=by
 have H:(if (a1.size:Int)=0 then (Y17.j0 k a0 a1 (a1.size:Int) true) else (Y17.j0 k a0 a1 (a1.size:Int) (a1.toList == a0.toList)))=some r:=h
 clear h
 have HC3:=Aside0.mk H
 clear H
 go_enter Tryd.func54,Tryd.ntmps54
 go_upto_region 2 with (fail)
 go_cut [16] (fun v16 wc=>∃ (kq:Nat) (x16_2:Bool),v16 = .bool x16_2∧Aside0 (Y17.j0 kq a0 a1 (a1.size:Int) x16_2=some r)∧Aside0 (kq≤k)∧Drawn0 w wc)
 case first =>
  have H:=HC3.out
  clear HC3
  by_cases c4:(a1.size:Int)=0
  ·rw [if_pos c4] at H
   have c4b0:((a1.size:Int) == 0)=true:=beq_iff_eq.mpr c4
   have c4b1:((a1.size:Int) != 0)=false:=bne_eq_false_iff_eq.mpr c4
   clear c4
   (first | rw [c4b0] | (simp only [i64_w,i32_w];rw [c4b0]) | skip)
   have H':=Aside0.mk H
   clear H
   go_wp2
   go_meet
   case rel=>exact ⟨_,(true),(by first | rfl | (simp;done) | (simp [*];done) | (simp [bne];done)),H',⟨by first | omega | exact Nat.le_refl _⟩,by repeat (first | exact Drawn0.refl _ | apply Drawn0.step)⟩
  ·rw [if_neg c4] at H
   have c4b0:((a1.size:Int) == 0)=false:=beq_eq_false_iff_ne.mpr c4
   have c4b1:((a1.size:Int) != 0)=true:=bne_iff_ne.mpr c4
   (first | rw [c4b0] | (simp only [i64_w,i32_w];rw [c4b0]) | skip)
   have H':=Aside0.mk H
   clear H
   go_wp2
   go_meet
   case rel=>exact ⟨_,((a1.toList == a0.toList)),(by first | rfl | (simp;done) | (simp [*];done) | (simp [bne];done)),H',⟨by first | omega | exact Nat.le_refl _⟩,by repeat (first | exact Drawn0.refl _ | apply Drawn0.step)⟩
 case rest =>
  clear HC3
  try clear p2
  try clear c4
  try clear c4b0
  try clear c4b1
  obtain ⟨kq,x16_2,rfl,HA,HJ2,⟨mc2,rfl⟩⟩:=hcut
  cases kq with
  | zero=>exact absurd HA.out (by simp [Y17.j0])
  | succ kj2 =>
   have H:=HA.out
   clear HA
   simp only [Y17.j0] at H
   by_cases c5:x16_2=true
   ·subst c5
    have H1:(some 0)=some r:=by rw [if_pos rfl] at H;exact H
    clear H
    have H:=H1
    clear H1
    obtain rfl:=Option.some.inj H
    go_wp2
    go_ret
    exact ⟨by first | rfl | (simp;done) | (simp [*];done) | (simp [bne];done),by repeat (first | exact Drawn0.refl _ | apply Drawn0.step)⟩
   ·replace c5:=Bool.eq_false_iff.mpr c5
    subst c5
    have H1:(if (a1.size:Int)=1 then (if 0<(a1.size:Int) then ((Y32.f a0 (bt a1 0)).bind fun t178=>(some t178)) else (none)) else (none))=some r:=by rw [if_neg (show ¬ (false=true) by decide)] at H;exact H
    clear H
    have H:=H1
    clear H1
    by_cases c6:(a1.size:Int)=1
    ·rw [if_pos c6] at H
     have c6b0:((a1.size:Int) == 1)=true:=beq_iff_eq.mpr c6
     have c6b1:((a1.size:Int) != 1)=false:=bne_eq_false_iff_eq.mpr c6
     clear c6
     by_cases c7:0<(a1.size:Int)
     ·rw [if_pos c7] at H
      have c7b0:decide (0<(a1.size:Int))=true:=decide_eq_true c7
      have c7b1:decide (0<a1.size)=true:=decide_eq_true (by omega)
      clear c7
      replace H:=Option.bind_eq_some_iff.mp H
      obtain ⟨t178,A90,H⟩:=H
      replace H:(some t178)=some r:=H
      have A9:=Aside0.mk A90
      clear A90
      obtain rfl:=Option.some.inj H
      have p8:0≤(0:Int):=(by omega)
      have q8:0<a1.size:=(by have:(0:Int)<(a1.size:Int):=of_decide_eq_true (by first | (with_reducible assumption) | assumption);omega)
      have hx8:∀ h:0<a1.size,((a1[0]'h).toNat:Int)=bt a1 0:=bt_at a1 0
      clear p8
      have qi8:(0<(a1.size:Int))=True:=eq_true (of_decide_eq_true (by first | (with_reducible assumption) | assumption))
      replace q8:=eq_true q8
      go_wp2_with (first | ((with_reducible refine gate_callee (f:=62) rfl ?_);refine goesL_ (some 30) rfl rfl Tryd.func62 (by kernel_rfl) rfl #[.string a0,.int .u8 (bt a1 0)] rfl (by (try simp only [List.map_toArray,List.map_cons,List.map_nil]);first | done | rfl | (simp only [List.length_drop,List.length_take];rfl)) ?_;(with_reducible refine (Y32.calls a0 (bt a1 0) t178 _ A9.out).mono ?_);rintro e w' ⟨rfl,⟨nd,rfl⟩⟩;refine ⟨_,rfl,?_⟩))
      go_ret
      exact ⟨by first | rfl | (simp;done) | (simp [*];done) | (simp [bne];done),by repeat (first | exact Drawn0.refl _ | apply Drawn0.step)⟩
     ·rw [if_neg c7] at H
      exact absurd H (by simp)
    ·rw [if_neg c6] at H
     exact absurd H (by simp)


/-! ### Y30: function 45 -/
def Y30.f (k:Nat) (a0:ByteArray) (a1:ByteArray):Option (Int):=(Y17.f k a0 a1).bind fun t179=>(some t179)
theorem Y30.mono:∀ a0 a1 k,LeO (Y30.f k a0 a1) (Y30.f (k+1) a0 a1):=by
 intro a0 a1 k
 unfold Y30.f
 repeat' first
   | (with_reducible exact Y17.mono _ _ _)
   | (with_reducible exact LeO.refl _)
   | (with_reducible exact LeO.none _)
   | (with_reducible refine LeO.ite ?_ ?_)
   | (with_reducible refine LeO.bind ?_ (fun _=>?_))
   | exact Y17.mono _ _ _
   | exact LeO.none _
   | refine LeO.ite ?_ ?_
   | refine LeO.bind ?_ (fun _=>?_)
set_option maxHeartbeats 8000000 in
set_option maxRecDepth 100000 in
theorem Y30.calls (k:Nat) (a0:ByteArray) (a1:ByteArray) (r:Int) (w:World) (h:Y30.f k a0 a1=some r) :
  Calls Tryd.prog 45 #[.string a0,.string a1] w fun e w'=>e = .returned (.int .i64 r)∧Drawn0 w w':=by
 have H:((Y17.f k a0 a1).bind fun t179=>(some t179))=some r:=h
 clear h
 replace H:=Option.bind_eq_some_iff.mp H
 obtain ⟨t179,A30,H⟩:=H
 replace H:(some t179)=some r:=H
 have A3:=Aside0.mk A30
 clear A30
 obtain rfl:=Option.some.inj H
 go_enter Tryd.func45,Tryd.ntmps45
 go_wp2_with (first | ((with_reducible refine gate_callee (f:=54) rfl ?_);refine goesL_ (some 7) rfl rfl Tryd.func54 (by kernel_rfl) rfl #[.string a0,.string a1] rfl (by (try simp only [List.map_toArray,List.map_cons,List.map_nil]);first | done | rfl | (simp only [List.length_drop,List.length_take];rfl)) ?_;(with_reducible refine (Y17.calls k a0 a1 t179 _ A3.out).mono ?_);rintro e w' ⟨rfl,⟨nd,rfl⟩⟩;refine ⟨_,rfl,?_⟩))
 go_ret
 exact ⟨by first | rfl | (simp;done) | (simp [*];done) | (simp [bne];done),by repeat (first | exact Drawn0.refl _ | apply Drawn0.step)⟩


/-! ### Y24: function 40 -/
def Y24.f (k:Nat) (a0:ByteArray) (a1:ByteArray):Option (Bool):=(Y30.f k a0 a1).bind fun t180=>(some (decide (t180≥0)))
theorem Y24.mono:∀ a0 a1 k,LeO (Y24.f k a0 a1) (Y24.f (k+1) a0 a1):=by
 intro a0 a1 k
 unfold Y24.f
 repeat' first
   | (with_reducible exact Y30.mono _ _ _)
   | (with_reducible exact LeO.refl _)
   | (with_reducible exact LeO.none _)
   | (with_reducible refine LeO.ite ?_ ?_)
   | (with_reducible refine LeO.bind ?_ (fun _=>?_))
   | exact Y30.mono _ _ _
   | exact LeO.none _
   | refine LeO.ite ?_ ?_
   | refine LeO.bind ?_ (fun _=>?_)
set_option maxHeartbeats 8000000 in
set_option maxRecDepth 100000 in
theorem Y24.calls (k:Nat) (a0:ByteArray) (a1:ByteArray) (r:Bool) (w:World) (h:Y24.f k a0 a1=some r) :
  Calls Tryd.prog 40 #[.string a0,.string a1] w fun e w'=>e = .returned (.bool r)∧Drawn0 w w':=by
 have H:((Y30.f k a0 a1).bind fun t180=>(some (decide (t180≥0))))=some r:=h
 clear h
 replace H:=Option.bind_eq_some_iff.mp H
 obtain ⟨t180,A30,H⟩:=H
 replace H:(some (decide (t180≥0)))=some r:=H
 have A3:=Aside0.mk A30
 clear A30
 obtain rfl:=Option.some.inj H
 go_enter Tryd.func40,Tryd.ntmps40
 go_wp2_with (first | ((with_reducible refine gate_callee (f:=45) rfl ?_);refine goesL_ (some 7) rfl rfl Tryd.func45 (by kernel_rfl) rfl #[.string a0,.string a1] rfl (by (try simp only [List.map_toArray,List.map_cons,List.map_nil]);first | done | rfl | (simp only [List.length_drop,List.length_take];rfl)) ?_;(with_reducible refine (Y30.calls k a0 a1 t180 _ A3.out).mono ?_);rintro e w' ⟨rfl,⟨nd,rfl⟩⟩;refine ⟨_,rfl,?_⟩))
 go_ret
 exact ⟨by first | rfl | (simp;done) | (simp [*];done) | (simp [bne];done),by repeat (first | exact Drawn0.refl _ | apply Drawn0.step)⟩


/-! ### Y0: function 39 -/
def Y0.f (k:Nat) (a0:ByteArray) (a1_0:ByteArray):Option (Bool):=(Y24.f k a1_0 a0).bind fun t181=>(some t181)
theorem Y0.mono:∀ a0 a1 k,LeO (Y0.f k a0 a1) (Y0.f (k+1) a0 a1):=by
 intro a0 a1 k
 unfold Y0.f
 repeat' first
   | (with_reducible exact Y24.mono _ _ _)
   | (with_reducible exact LeO.refl _)
   | (with_reducible exact LeO.none _)
   | (with_reducible refine LeO.ite ?_ ?_)
   | (with_reducible refine LeO.bind ?_ (fun _=>?_))
   | exact Y24.mono _ _ _
   | exact LeO.none _
   | refine LeO.ite ?_ ?_
   | refine LeO.bind ?_ (fun _=>?_)
set_option maxHeartbeats 8000000 in
set_option maxRecDepth 100000 in
theorem Y0.calls (k:Nat) (a0:ByteArray) (gb1:Nat) (a1_0:ByteArray) (r:Bool) (w:World) (hk1:w.heap[gb1]? = some (.cells #[.string a1_0] 9 (0,0))) (h:Y0.f k a0 a1_0=some r) :
  Calls Tryd.prog 39 #[.string a0,.pointer (some ⟨gb1,0,none⟩)] w fun e w'=>e = .returned (.bool r)∧Below w.heap.size w w':=by
 have BK61:=Aside0.mk hk1
 clear hk1
 have HB:=Aside0.mk (Below.refl w.heap.size w)
 have H:((Y24.f k a1_0 a0).bind fun t181=>(some t181))=some r:=h
 clear h
 replace H:=Option.bind_eq_some_iff.mp H
 obtain ⟨t181,A30,H⟩:=H
 replace H:(some t181)=some r:=H
 have A3:=Aside0.mk A30
 clear A30
 obtain rfl:=Option.some.inj H
 have hcz4_0:w.cell? ⟨gb1,0,none⟩=some (.string a1_0):=(blk_cell BK61.out 0).trans rfl
 have hfz4_0:=blk_frozen BK61.out 0
 go_enter Tryd.func39,Tryd.ntmps39
 go_wp2_with (first | ((with_reducible refine gate_callee (f:=40) rfl ?_);refine goesL_ (some 6) rfl rfl Tryd.func40 (by kernel_rfl) rfl #[.string a1_0,.string a0] rfl (by (try simp only [List.map_toArray,List.map_cons,List.map_nil]);first | done | rfl | (simp only [List.length_drop,List.length_take];rfl)) ?_;(with_reducible refine (Y24.calls k a1_0 a0 t181 _ A3.out).mono ?_);rintro e w' ⟨rfl,⟨nd,rfl⟩⟩;refine ⟨_,rfl,?_⟩))
 go_ret
 exact ⟨by first | rfl | (simp [errW_none,errW_some] <;> rfl) | (simp [*,errW_none,errW_some] <;> rfl),by repeat (first | (with_reducible first | exact HB.out | apply below_alloc | apply pw_below_drewN | apply below_drew1 | refine below_set ?_ GE61.out) | exact HB.out)⟩


/-! ### Y3: function 25 -/
mutual
def Y3.j0:Nat→Bool→Int→Int→Int→ByteArray→ByteArray→Int→Option (Bool)
 | 0,_,_,_,_,_,_,_=>none
 | k+1,x26,x183000,x183001,x183002,x183003,x183004,x183005=>if x26=true then (some false) else ((Y20.f).bind fun t186=>(if 0≤(wrap64 (x183000-1)) then (if (wrap64 (x183000-1))<(t186.length:Int) then ((Y0.f k (⟨#[65]⟩:ByteArray) ((rd_T50 t186 (wrap64 (x183000-1))).f1)).bind fun t191=>((Y19.f x183001 t191).bind fun t192=>(if t192=true then ((Y0.f k (⟨#[66]⟩:ByteArray) ((rd_T50 t186 (wrap64 (x183000-1))).f1)).bind fun t193=>((Y19.f x183002 t193).bind fun t194=>(Y3.j1 k (!t194) x183000 x183001 x183002 x183003 x183004 x183005 ((rd_T50 t186 (wrap64 (x183000-1))).f1)))) else (Y3.j1 k true x183000 x183001 x183002 x183003 x183004 x183005 ((rd_T50 t186 (wrap64 (x183000-1))).f1))))) else (none)) else (none)))
def Y3.j1:Nat→Bool→Int→Int→Int→ByteArray→ByteArray→Int→ByteArray→Option (Bool)
 | 0,_,_,_,_,_,_,_,_=>none
 | k+1,x50,x183000,x183001,x183002,x183003,x183004,x183005,x191000=>if x50=true then (some false) else ((Y0.f k (⟨#[75]⟩:ByteArray) x191000).bind fun t195=>(if t195=true then ((Y6.f k x183003).bind fun t196=>(if t196=true then ((Y0.f k (⟨#[68]⟩:ByteArray) x191000).bind fun t197=>(if t197=true then ((Y6.f k x183004).bind fun t198=>(if t198=true then (if (x183004.size:Int)≤16 then (some true) else ((Y0.f k (⟨#[68]⟩:ByteArray) x191000).bind fun t199=>(if t199=true then (some false) else (some (x183004.toList == ([]:List UInt8)))))) else ((Y0.f k (⟨#[68]⟩:ByteArray) x191000).bind fun t200=>(if t200=true then (some false) else (some (x183004.toList == ([]:List UInt8))))))) else ((Y0.f k (⟨#[68]⟩:ByteArray) x191000).bind fun t201=>(if t201=true then (some false) else (some (x183004.toList == ([]:List UInt8))))))) else ((Y0.f k (⟨#[75]⟩:ByteArray) x191000).bind fun t202=>(if t202=true then (some false) else (if x183003.toList=([]:List UInt8) then ((Y0.f k (⟨#[68]⟩:ByteArray) x191000).bind fun t203=>(if t203=true then ((Y6.f k x183004).bind fun t204=>(if t204=true then (if (x183004.size:Int)≤16 then (some true) else ((Y0.f k (⟨#[68]⟩:ByteArray) x191000).bind fun t205=>(if t205=true then (some false) else (some (x183004.toList == ([]:List UInt8)))))) else ((Y0.f k (⟨#[68]⟩:ByteArray) x191000).bind fun t206=>(if t206=true then (some false) else (some (x183004.toList == ([]:List UInt8))))))) else ((Y0.f k (⟨#[68]⟩:ByteArray) x191000).bind fun t207=>(if t207=true then (some false) else (some (x183004.toList == ([]:List UInt8))))))) else (some false)))))) else ((Y0.f k (⟨#[75]⟩:ByteArray) x191000).bind fun t208=>(if t208=true then (some false) else (if x183003.toList=([]:List UInt8) then ((Y0.f k (⟨#[68]⟩:ByteArray) x191000).bind fun t209=>(if t209=true then ((Y6.f k x183004).bind fun t210=>(if t210=true then (if (x183004.size:Int)≤16 then (some true) else ((Y0.f k (⟨#[68]⟩:ByteArray) x191000).bind fun t211=>(if t211=true then (some false) else (some (x183004.toList == ([]:List UInt8)))))) else ((Y0.f k (⟨#[68]⟩:ByteArray) x191000).bind fun t212=>(if t212=true then (some false) else (some (x183004.toList == ([]:List UInt8))))))) else ((Y0.f k (⟨#[68]⟩:ByteArray) x191000).bind fun t213=>(if t213=true then (some false) else (some (x183004.toList == ([]:List UInt8))))))) else (some false))))))
end
def Y3.f (k:Nat) (a0_0:Int) (a0_1:Int) (a0_2:Int) (a0_3:ByteArray) (a0_4:ByteArray) (a0_5:Int):Option (Bool):=(Y22.f a0_0 1 17).bind fun t183=>(if t183=true then (if a0_5=(-1) then (Y3.j0 k false a0_0 a0_1 a0_2 a0_3 a0_4 a0_5) else ((Y16.f k a0_0).bind fun t184=>(if t184=true then ((Y35.f a0_5).bind fun t185=>(Y3.j0 k (!t185) a0_0 a0_1 a0_2 a0_3 a0_4 a0_5)) else (Y3.j0 k true a0_0 a0_1 a0_2 a0_3 a0_4 a0_5)))) else (Y3.j0 k true a0_0 a0_1 a0_2 a0_3 a0_4 a0_5))
theorem Y3.mono_l:∀ k,(∀ y0 y1 y2 y3 y4 y5 y6,LeO (Y3.j0 k y0 y1 y2 y3 y4 y5 y6) (Y3.j0 (k+1) y0 y1 y2 y3 y4 y5 y6))∧(∀ y0 y1 y2 y3 y4 y5 y6 y7,LeO (Y3.j1 k y0 y1 y2 y3 y4 y5 y6 y7) (Y3.j1 (k+1) y0 y1 y2 y3 y4 y5 y6 y7))
 | 0=>⟨fun _ _ _ _ _ _ _ r h=>by simp [Y3.j0] at h,fun _ _ _ _ _ _ _ _ r h=>by simp [Y3.j1] at h⟩
 | k+1=>by
  obtain ⟨ih0,ih1⟩:=Y3.mono_l k
  refine ⟨?_,?_⟩
  ·intro y0 y1 y2 y3 y4 y5 y6
   unfold Y3.j0
   repeat' first
   | (with_reducible exact ih0 _ _ _ _ _ _ _)
   | (with_reducible exact ih1 _ _ _ _ _ _ _ _)
   | (with_reducible exact Y0.mono _ _ _)
   | (with_reducible exact Y6.mono _ _)
   | (with_reducible exact Y16.mono _ _)
   | (with_reducible exact LeO.refl _)
   | (with_reducible exact LeO.none _)
   | (with_reducible refine LeO.ite ?_ ?_)
   | (with_reducible refine LeO.bind ?_ (fun _=>?_))
   | exact ih0 _ _ _ _ _ _ _
   | exact ih1 _ _ _ _ _ _ _ _
   | exact Y0.mono _ _ _
   | exact Y6.mono _ _
   | exact Y16.mono _ _
   | exact LeO.none _
   | refine LeO.ite ?_ ?_
   | refine LeO.bind ?_ (fun _=>?_)
  ·intro y0 y1 y2 y3 y4 y5 y6 y7
   unfold Y3.j1
   repeat' first
   | (with_reducible exact ih0 _ _ _ _ _ _ _)
   | (with_reducible exact ih1 _ _ _ _ _ _ _ _)
   | (with_reducible exact Y0.mono _ _ _)
   | (with_reducible exact Y6.mono _ _)
   | (with_reducible exact Y16.mono _ _)
   | (with_reducible exact LeO.refl _)
   | (with_reducible exact LeO.none _)
   | (with_reducible refine LeO.ite ?_ ?_)
   | (with_reducible refine LeO.bind ?_ (fun _=>?_))
   | exact ih0 _ _ _ _ _ _ _
   | exact ih1 _ _ _ _ _ _ _ _
   | exact Y0.mono _ _ _
   | exact Y6.mono _ _
   | exact Y16.mono _ _
   | exact LeO.none _
   | refine LeO.ite ?_ ?_
   | refine LeO.bind ?_ (fun _=>?_)
theorem Y3.mono:∀ a0 a1 a2 a3 a4 a5 k,LeO (Y3.f k a0 a1 a2 a3 a4 a5) (Y3.f (k+1) a0 a1 a2 a3 a4 a5):=by
 intro a0 a1 a2 a3 a4 a5 k
 obtain ⟨ih0,ih1⟩:=Y3.mono_l k
 unfold Y3.f
 repeat' first
   | (with_reducible exact ih0 _ _ _ _ _ _ _)
   | (with_reducible exact ih1 _ _ _ _ _ _ _ _)
   | (with_reducible exact Y0.mono _ _ _)
   | (with_reducible exact Y6.mono _ _)
   | (with_reducible exact Y16.mono _ _)
   | (with_reducible exact LeO.refl _)
   | (with_reducible exact LeO.none _)
   | (with_reducible refine LeO.ite ?_ ?_)
   | (with_reducible refine LeO.bind ?_ (fun _=>?_))
   | exact ih0 _ _ _ _ _ _ _
   | exact ih1 _ _ _ _ _ _ _ _
   | exact Y0.mono _ _ _
   | exact Y6.mono _ _
   | exact Y16.mono _ _
   | exact LeO.none _
   | refine LeO.ite ?_ ?_
   | refine LeO.bind ?_ (fun _=>?_)
def Y3.T3:Bool × List (List Nat × List Nat):=(true,[([],[]),([],[]),([1],[1]),([2],[2]),([0,3],[0,3]),([4],[4]),([5],[5]),([],[]),([7,6,0,0,1,2,3,4,5,6,7],[6,7])])
def Y3.B3:List Nat:=[0,0,2,6,15,31,63,0,255]
theorem Y3.tab3:rtab .any (opsOf Tryd.f25 3)=Y3.T3:=by kernel_rfl
theorem Y3.bits3:waitsOk Y3.T3.2 Y3.B3=true:=by kernel_rfl
def Y3.T6:Bool × List (List Nat × List Nat):=(true,[([],[]),([],[]),([1],[1]),([],[]),([3],[3]),([0,2,4,4],[0,2,4]),([5],[5]),([6,5],[6]),([7],[7]),([7],[7]),([9,7],[7,9]),([7],[7]),([11,7,7],[7,11]),([8,10,12,12,7],[7,8,10,12]),([13,7],[7,13]),([7,14],[7,14])])
def Y3.B6:List Nat:=[0,0,2,0,8,31,63,127,255,255,767,255,2303,8191,16383,32767]
theorem Y3.tab6:rtab .any (opsOf Tryd.f25 6)=Y3.T6:=by kernel_rfl
theorem Y3.bits6:waitsOk Y3.T6.2 Y3.B6=true:=by kernel_rfl
abbrev Y3.q0:Array Bool:=#[false,false,false,false,false,false,false,false,false,false,false,false,false,false,false,false]
abbrev Y3.q1:Array Bool:=#[true,false,false,false,false,false,false,false,false,false,false,false,false,false,false,false]
abbrev Y3.q2:Array Bool:=#[true,true,false,false,false,false,false,false,false,false,false,false,false,false,false,false]
abbrev Y3.q3:Array Bool:=#[true,true,false,true,false,false,false,false,false,false,false,false,false,false,false,false]
abbrev Y3.q4:Array Bool:=#[true,true,true,true,false,false,false,false,false,false,false,false,false,false,false,false]
abbrev Y3.q5:Array Bool:=#[true,true,true,true,true,false,false,false,false,false,false,false,false,false,false,false]
abbrev Y3.q6:Array Bool:=#[true,true,true,true,true,true,false,false,false,false,false,false,false,false,false,false]
abbrev Y3.q7:Array Bool:=#[true,true,true,true,true,true,true,false,false,false,false,false,false,false,false,false]
abbrev Y3.q8:Array Bool:=#[true,true,true,true,true,true,true,true,false,false,false,false,false,false,false,false]
abbrev Y3.q9:Array Bool:=#[true,true,true,true,true,true,true,true,true,false,false,false,false,false,false,false]
abbrev Y3.q10:Array Bool:=#[true,true,true,true,true,true,true,true,true,true,false,false,false,false,false,false]
abbrev Y3.q11:Array Bool:=#[true,true,true,true,true,true,true,true,true,true,true,true,false,false,false,false]
abbrev Y3.q12:Array Bool:=#[true,true,true,true,true,true,true,true,true,true,true,true,true,false,false,false]
abbrev Y3.q13:Array Bool:=#[true,true,true,true,true,true,true,true,true,true,true,true,true,true,false,false]
abbrev Y3.q14:Array Bool:=#[true,true,true,true,true,true,true,true,true,true,true,true,true,true,true,false]
abbrev Y3.q15:Array Bool:=#[true,true,true,true,true,true,true,true,true,true,true,true,true,true,true,true]
set_option maxHeartbeats 8000000 in
set_option maxRecDepth 100000 in
theorem Y3.calls (k:Nat) (a0_0:Int) (a0_1:Int) (a0_2:Int) (a0_3:ByteArray) (a0_4:ByteArray) (a0_5:Int) (r:Bool) (w:World) (h:Y3.f k a0_0 a0_1 a0_2 a0_3 a0_4 a0_5=some r) :
  Calls Tryd.prog 25 #[.agg #[.int .i64 a0_0,.int .i64 a0_1,.int .i64 a0_2,.string a0_3,.string a0_4,.int .i64 a0_5]] w fun e w'=>e = .returned (.bool r)∧Below w.heap.size w w':=by
 have hu23:=Tryd.underlying23
 have HB:=Aside0.mk (Below.refl w.heap.size w)
 have H:((Y22.f a0_0 1 17).bind fun t183=>(if t183=true then (if a0_5=(-1) then (Y3.j0 k false a0_0 a0_1 a0_2 a0_3 a0_4 a0_5) else ((Y16.f k a0_0).bind fun t184=>(if t184=true then ((Y35.f a0_5).bind fun t185=>(Y3.j0 k (!t185) a0_0 a0_1 a0_2 a0_3 a0_4 a0_5)) else (Y3.j0 k true a0_0 a0_1 a0_2 a0_3 a0_4 a0_5)))) else (Y3.j0 k true a0_0 a0_1 a0_2 a0_3 a0_4 a0_5)))=some r:=h
 clear h
 have HC2:=Aside0.mk H
 clear H
 go_enter Tryd.func25,Tryd.ntmps25
 go_upto_region 1 with (first | ((with_reducible refine gate_dst (N:=1) rfl ?_);(try (refine gate_guard (by rfl) ?_;dsimp only));refine box_event ?hg (N:=1) ?hd (cs:=#[.int .i64 a0_0,.int .i64 a0_1,.int .i64 a0_2,.string a0_3,.string a0_4,.int .i64 a0_5]) (t:=23) ?hr ?_;(case hd=>rfl);(case hg=>rfl);(case hr=>first | (go_simp;done) | (go_simp;rfl));intro gb182 hg w3 hbox hb;have n0_:=Aside0.mk (below_step (by repeat (first | (with_reducible first | exact HB.out | apply below_alloc | apply pw_below_drewN | apply below_drew1) | exact HB.out)) hb);have n1_:=Aside0.mk (hbox);have n2_:=Aside0.mk ((by rw [hg];exact (below_size (by repeat (first | (with_reducible first | exact HB.out | apply below_alloc | apply pw_below_drewN | apply below_drew1) | exact HB.out))):w.heap.size≤gb182));have n3_:=Aside0.mk ((by rw [hg];exact (below_size (by repeat (first | (with_reducible first | exact HB.out | apply below_alloc | apply pw_below_drewN | apply below_drew1) | exact HB.out))):w.heap.size≤gb182));clear HB;have HB:=n0_;have BK182:=n1_;have GW182:=n2_;have GE182:=n3_;clear n0_ n1_ n2_ n3_;clear hb hbox hg))
 (try simp only [Act.put,sa_,s0_,ss_])
 go_cut [26] (fun v26 wc=>∃ (kq:Nat) (x26_1:Bool),v26 = .bool x26_1∧Aside0 (Y3.j0 kq x26_1 a0_0 a0_1 a0_2 a0_3 a0_4 a0_5=some r)∧Aside0 (kq≤k)∧Aside0 (wc.heap[gb182]? = some (.cells #[.int .i64 a0_0,.int .i64 a0_1,.int .i64 a0_2,.string a0_3,.string a0_4,.int .i64 a0_5] 23 (0,0)))∧Aside0 (Below w.heap.size w wc))
 case first=>as_aux_lemma =>
  have H:=HC2.out
  clear HC2
  replace H:=Option.bind_eq_some_iff.mp H
  obtain ⟨t183,A40,H⟩:=H
  replace H:(if t183=true then (if a0_5=(-1) then (Y3.j0 k false a0_0 a0_1 a0_2 a0_3 a0_4 a0_5) else ((Y16.f k a0_0).bind fun t184=>(if t184=true then ((Y35.f a0_5).bind fun t185=>(Y3.j0 k (!t185) a0_0 a0_1 a0_2 a0_3 a0_4 a0_5)) else (Y3.j0 k true a0_0 a0_1 a0_2 a0_3 a0_4 a0_5)))) else (Y3.j0 k true a0_0 a0_1 a0_2 a0_3 a0_4 a0_5))=some r:=H
  have A4:=Aside0.mk A40
  clear A40
  by_cases c5:t183=true
  ·subst c5
   have H1:(if a0_5=(-1) then (Y3.j0 k false a0_0 a0_1 a0_2 a0_3 a0_4 a0_5) else ((Y16.f k a0_0).bind fun t184=>(if t184=true then ((Y35.f a0_5).bind fun t185=>(Y3.j0 k (!t185) a0_0 a0_1 a0_2 a0_3 a0_4 a0_5)) else (Y3.j0 k true a0_0 a0_1 a0_2 a0_3 a0_4 a0_5))))=some r:=by rw [if_pos rfl] at H;exact H
   clear H
   have H:=H1
   clear H1
   by_cases c6:a0_5=(-1)
   ·rw [if_pos c6] at H
    have c6b0:(a0_5 == (-1))=true:=beq_iff_eq.mpr c6
    have c6b1:(a0_5 != (-1))=false:=bne_eq_false_iff_eq.mpr c6
    clear c6
    (first | rw [c6b0] | (simp only [i64_w,i32_w];rw [c6b0]) | skip)
    have H':=Aside0.mk H
    clear H
    have hcz7_0:w3.cell? ⟨gb182,0,none⟩=some (.int .i64 a0_0):=(blk_cell BK182.out 0).trans rfl
    have hcz7_1:w3.cell? ⟨gb182,1,none⟩=some (.int .i64 a0_1):=(blk_cell BK182.out 1).trans rfl
    have hcz7_2:w3.cell? ⟨gb182,2,none⟩=some (.int .i64 a0_2):=(blk_cell BK182.out 2).trans rfl
    have hcz7_3:w3.cell? ⟨gb182,3,none⟩=some (.string a0_3):=(blk_cell BK182.out 3).trans rfl
    have hcz7_4:w3.cell? ⟨gb182,4,none⟩=some (.string a0_4):=(blk_cell BK182.out 4).trans rfl
    have hcz7_5:w3.cell? ⟨gb182,5,none⟩=some (.int .i64 a0_5):=(blk_cell BK182.out 5).trans rfl
    have hfz7_0:=blk_frozen BK182.out 0
    have hfz7_1:=blk_frozen BK182.out 1
    have hfz7_2:=blk_frozen BK182.out 2
    have hfz7_3:=blk_frozen BK182.out 3
    have hfz7_4:=blk_frozen BK182.out 4
    have hfz7_5:=blk_frozen BK182.out 5
    go_wp2_with (first | ((with_reducible refine gate_callee (f:=36) rfl ?_);refine goesL_ (some 8) rfl rfl Tryd.func36 (by kernel_rfl) rfl #[.int .i64 a0_0,.int .i64 1,.int .i64 17] rfl (by (try simp only [List.map_toArray,List.map_cons,List.map_nil]);first | done | rfl | (simp only [List.length_drop,List.length_take];rfl)) ?_;(with_reducible refine (Y22.calls a0_0 1 17 true _ A4.out).mono ?_);rintro e w' ⟨rfl,⟨nd,rfl⟩⟩;refine ⟨_,rfl,?_⟩))
    go_meet
    case rel=>exact ⟨_,(false),(by first | rfl | (simp;done) | (simp [*];done) | (simp [bne];done)),H',⟨by first | omega | exact Nat.le_refl _⟩,⟨by (with_reducible repeat (first | refine blk_drewN ?_ _ | refine blk_drew ?_ | refine blk_alloc ?_ _));exact BK182.out⟩,⟨by repeat (first | (with_reducible first | exact HB.out | apply below_alloc | apply pw_below_drewN | apply below_drew1 | refine below_set ?_ GE182.out) | exact HB.out)⟩⟩
   ·rw [if_neg c6] at H
    have c6b0:(a0_5 == (-1))=false:=beq_eq_false_iff_ne.mpr c6
    have c6b1:(a0_5 != (-1))=true:=bne_iff_ne.mpr c6
    (first | rw [c6b0] | (simp only [i64_w,i32_w];rw [c6b0]) | skip)
    replace H:=Option.bind_eq_some_iff.mp H
    obtain ⟨t184,A80,H⟩:=H
    replace H:(if t184=true then ((Y35.f a0_5).bind fun t185=>(Y3.j0 k (!t185) a0_0 a0_1 a0_2 a0_3 a0_4 a0_5)) else (Y3.j0 k true a0_0 a0_1 a0_2 a0_3 a0_4 a0_5))=some r:=H
    have A8:=Aside0.mk A80
    clear A80
    by_cases c9:t184=true
    ·subst c9
     have H1:((Y35.f a0_5).bind fun t185=>(Y3.j0 k (!t185) a0_0 a0_1 a0_2 a0_3 a0_4 a0_5))=some r:=by rw [if_pos rfl] at H;exact H
     clear H
     have H:=H1
     clear H1
     replace H:=Option.bind_eq_some_iff.mp H
     obtain ⟨t185,A100,H⟩:=H
     replace H:(Y3.j0 k (!t185) a0_0 a0_1 a0_2 a0_3 a0_4 a0_5)=some r:=H
     have A10:=Aside0.mk A100
     clear A100
     have H':=Aside0.mk H
     clear H
     have hcz11_0:w3.cell? ⟨gb182,0,none⟩=some (.int .i64 a0_0):=(blk_cell BK182.out 0).trans rfl
     have hcz11_1:w3.cell? ⟨gb182,1,none⟩=some (.int .i64 a0_1):=(blk_cell BK182.out 1).trans rfl
     have hcz11_2:w3.cell? ⟨gb182,2,none⟩=some (.int .i64 a0_2):=(blk_cell BK182.out 2).trans rfl
     have hcz11_3:w3.cell? ⟨gb182,3,none⟩=some (.string a0_3):=(blk_cell BK182.out 3).trans rfl
     have hcz11_4:w3.cell? ⟨gb182,4,none⟩=some (.string a0_4):=(blk_cell BK182.out 4).trans rfl
     have hcz11_5:w3.cell? ⟨gb182,5,none⟩=some (.int .i64 a0_5):=(blk_cell BK182.out 5).trans rfl
     have hfz11_0:=blk_frozen BK182.out 0
     have hfz11_1:=blk_frozen BK182.out 1
     have hfz11_2:=blk_frozen BK182.out 2
     have hfz11_3:=blk_frozen BK182.out 3
     have hfz11_4:=blk_frozen BK182.out 4
     have hfz11_5:=blk_frozen BK182.out 5
     go_wp2_with (first | ((with_reducible refine gate_callee (f:=36) rfl ?_);refine goesL_ (some 8) rfl rfl Tryd.func36 (by kernel_rfl) rfl #[.int .i64 a0_0,.int .i64 1,.int .i64 17] rfl (by (try simp only [List.map_toArray,List.map_cons,List.map_nil]);first | done | rfl | (simp only [List.length_drop,List.length_take];rfl)) ?_;(with_reducible refine (Y22.calls a0_0 1 17 true _ A4.out).mono ?_);rintro e w' ⟨rfl,⟨nd,rfl⟩⟩;refine ⟨_,rfl,?_⟩) | (go_at_call 37;(with_reducible refine (Y16.calls k a0_0 true _ A8.out).mono ?_);rintro e w' ⟨rfl,⟨nd,rfl⟩⟩) | (go_at_call 38;(with_reducible refine (Y35.calls a0_5 t185 _ A10.out).mono ?_);rintro e w' ⟨rfl,⟨nd,rfl⟩⟩))
     go_meet
     case rel=>exact ⟨_,(!t185),(by first | rfl | (simp;done) | (simp [*];done) | (simp [bne];done)),H',⟨by first | omega | exact Nat.le_refl _⟩,⟨by (with_reducible repeat (first | refine blk_drewN ?_ _ | refine blk_drew ?_ | refine blk_alloc ?_ _));exact BK182.out⟩,⟨by repeat (first | (with_reducible first | exact HB.out | apply below_alloc | apply pw_below_drewN | apply below_drew1 | refine below_set ?_ GE182.out) | exact HB.out)⟩⟩
    ·replace c9:=Bool.eq_false_iff.mpr c9
     subst c9
     have H1:(Y3.j0 k true a0_0 a0_1 a0_2 a0_3 a0_4 a0_5)=some r:=by rw [if_neg (show ¬ (false=true) by decide)] at H;exact H
     clear H
     have H:=H1
     clear H1
     have H':=Aside0.mk H
     clear H
     have hcz12_0:w3.cell? ⟨gb182,0,none⟩=some (.int .i64 a0_0):=(blk_cell BK182.out 0).trans rfl
     have hcz12_1:w3.cell? ⟨gb182,1,none⟩=some (.int .i64 a0_1):=(blk_cell BK182.out 1).trans rfl
     have hcz12_2:w3.cell? ⟨gb182,2,none⟩=some (.int .i64 a0_2):=(blk_cell BK182.out 2).trans rfl
     have hcz12_3:w3.cell? ⟨gb182,3,none⟩=some (.string a0_3):=(blk_cell BK182.out 3).trans rfl
     have hcz12_4:w3.cell? ⟨gb182,4,none⟩=some (.string a0_4):=(blk_cell BK182.out 4).trans rfl
     have hcz12_5:w3.cell? ⟨gb182,5,none⟩=some (.int .i64 a0_5):=(blk_cell BK182.out 5).trans rfl
     have hfz12_0:=blk_frozen BK182.out 0
     have hfz12_1:=blk_frozen BK182.out 1
     have hfz12_2:=blk_frozen BK182.out 2
     have hfz12_3:=blk_frozen BK182.out 3
     have hfz12_4:=blk_frozen BK182.out 4
     have hfz12_5:=blk_frozen BK182.out 5
     go_wp2_with (first | ((with_reducible refine gate_callee (f:=36) rfl ?_);refine goesL_ (some 8) rfl rfl Tryd.func36 (by kernel_rfl) rfl #[.int .i64 a0_0,.int .i64 1,.int .i64 17] rfl (by (try simp only [List.map_toArray,List.map_cons,List.map_nil]);first | done | rfl | (simp only [List.length_drop,List.length_take];rfl)) ?_;(with_reducible refine (Y22.calls a0_0 1 17 true _ A4.out).mono ?_);rintro e w' ⟨rfl,⟨nd,rfl⟩⟩;refine ⟨_,rfl,?_⟩) | (go_at_call 37;(with_reducible refine (Y16.calls k a0_0 false _ A8.out).mono ?_);rintro e w' ⟨rfl,⟨nd,rfl⟩⟩))
     go_meet
     case rel=>exact ⟨_,(true),(by first | rfl | (simp;done) | (simp [*];done) | (simp [bne];done)),H',⟨by first | omega | exact Nat.le_refl _⟩,⟨by (with_reducible repeat (first | refine blk_drewN ?_ _ | refine blk_drew ?_ | refine blk_alloc ?_ _));exact BK182.out⟩,⟨by repeat (first | (with_reducible first | exact HB.out | apply below_alloc | apply pw_below_drewN | apply below_drew1 | refine below_set ?_ GE182.out) | exact HB.out)⟩⟩
  ·replace c5:=Bool.eq_false_iff.mpr c5
   subst c5
   have H1:(Y3.j0 k true a0_0 a0_1 a0_2 a0_3 a0_4 a0_5)=some r:=by rw [if_neg (show ¬ (false=true) by decide)] at H;exact H
   clear H
   have H:=H1
   clear H1
   have H':=Aside0.mk H
   clear H
   have hcz13_0:w3.cell? ⟨gb182,0,none⟩=some (.int .i64 a0_0):=(blk_cell BK182.out 0).trans rfl
   have hcz13_1:w3.cell? ⟨gb182,1,none⟩=some (.int .i64 a0_1):=(blk_cell BK182.out 1).trans rfl
   have hcz13_2:w3.cell? ⟨gb182,2,none⟩=some (.int .i64 a0_2):=(blk_cell BK182.out 2).trans rfl
   have hcz13_3:w3.cell? ⟨gb182,3,none⟩=some (.string a0_3):=(blk_cell BK182.out 3).trans rfl
   have hcz13_4:w3.cell? ⟨gb182,4,none⟩=some (.string a0_4):=(blk_cell BK182.out 4).trans rfl
   have hcz13_5:w3.cell? ⟨gb182,5,none⟩=some (.int .i64 a0_5):=(blk_cell BK182.out 5).trans rfl
   have hfz13_0:=blk_frozen BK182.out 0
   have hfz13_1:=blk_frozen BK182.out 1
   have hfz13_2:=blk_frozen BK182.out 2
   have hfz13_3:=blk_frozen BK182.out 3
   have hfz13_4:=blk_frozen BK182.out 4
   have hfz13_5:=blk_frozen BK182.out 5
   go_wp2_with (first | ((with_reducible refine gate_callee (f:=36) rfl ?_);refine goesL_ (some 8) rfl rfl Tryd.func36 (by kernel_rfl) rfl #[.int .i64 a0_0,.int .i64 1,.int .i64 17] rfl (by (try simp only [List.map_toArray,List.map_cons,List.map_nil]);first | done | rfl | (simp only [List.length_drop,List.length_take];rfl)) ?_;(with_reducible refine (Y22.calls a0_0 1 17 false _ A4.out).mono ?_);rintro e w' ⟨rfl,⟨nd,rfl⟩⟩;refine ⟨_,rfl,?_⟩))
   go_meet
   case rel=>exact ⟨_,(true),(by first | rfl | (simp;done) | (simp [*];done) | (simp [bne];done)),H',⟨by first | omega | exact Nat.le_refl _⟩,⟨by (with_reducible repeat (first | refine blk_drewN ?_ _ | refine blk_drew ?_ | refine blk_alloc ?_ _));exact BK182.out⟩,⟨by repeat (first | (with_reducible first | exact HB.out | apply below_alloc | apply pw_below_drewN | apply below_drew1 | refine below_set ?_ GE182.out) | exact HB.out)⟩⟩
 case rest=>as_aux_lemma =>
  clear HC2
  try clear c2
  try clear p2
  try clear c3
  try clear c5
  try clear c6
  try clear c6b0
  try clear c6b1
  try clear c9
  try clear hcz11_0
  try clear hcz11_1
  try clear hcz11_2
  try clear hcz11_3
  try clear hcz11_4
  try clear hcz11_5
  try clear hcz12_0
  try clear hcz12_1
  try clear hcz12_2
  try clear hcz12_3
  try clear hcz12_4
  try clear hcz12_5
  try clear hcz13_0
  try clear hcz13_1
  try clear hcz13_2
  try clear hcz13_3
  try clear hcz13_4
  try clear hcz13_5
  try clear hcz7_0
  try clear hcz7_1
  try clear hcz7_2
  try clear hcz7_3
  try clear hcz7_4
  try clear hcz7_5
  try clear hfz11_0
  try clear hfz11_1
  try clear hfz11_2
  try clear hfz11_3
  try clear hfz11_4
  try clear hfz11_5
  try clear hfz12_0
  try clear hfz12_1
  try clear hfz12_2
  try clear hfz12_3
  try clear hfz12_4
  try clear hfz12_5
  try clear hfz13_0
  try clear hfz13_1
  try clear hfz13_2
  try clear hfz13_3
  try clear hfz13_4
  try clear hfz13_5
  try clear hfz7_0
  try clear hfz7_1
  try clear hfz7_2
  try clear hfz7_3
  try clear hfz7_4
  try clear hfz7_5
  obtain ⟨kq,x26_1,rfl,HA,HJ1,BK182,HB⟩:=hcut
  cases kq with
  | zero=>exact absurd HA.out (by simp [Y3.j0])
  | succ kj1 =>
   have H:=HA.out
   clear HA
   simp only [Y3.j0] at H
   by_cases c14:x26_1=true
   ·subst c14
    have H1:(some false)=some r:=by rw [if_pos rfl] at H;exact H
    clear H
    have H:=H1
    clear H1
    obtain rfl:=Option.some.inj H
    go_wp2
    go_ret
    exact ⟨by first | rfl | (simp [errW_none,errW_some] <;> rfl) | (simp [*,errW_none,errW_some] <;> rfl),by repeat (first | (with_reducible first | exact HB.out | apply below_alloc | apply pw_below_drewN | apply below_drew1 | refine below_set ?_ GE182.out) | exact HB.out)⟩
   ·replace c14:=Bool.eq_false_iff.mpr c14
    subst c14
    have H1:((Y20.f).bind fun t186=>(if 0≤(wrap64 (a0_0-1)) then (if (wrap64 (a0_0-1))<(t186.length:Int) then ((Y0.f kj1 (⟨#[65]⟩:ByteArray) ((rd_T50 t186 (wrap64 (a0_0-1))).f1)).bind fun t191=>((Y19.f a0_1 t191).bind fun t192=>(if t192=true then ((Y0.f kj1 (⟨#[66]⟩:ByteArray) ((rd_T50 t186 (wrap64 (a0_0-1))).f1)).bind fun t193=>((Y19.f a0_2 t193).bind fun t194=>(Y3.j1 kj1 (!t194) a0_0 a0_1 a0_2 a0_3 a0_4 a0_5 ((rd_T50 t186 (wrap64 (a0_0-1))).f1)))) else (Y3.j1 kj1 true a0_0 a0_1 a0_2 a0_3 a0_4 a0_5 ((rd_T50 t186 (wrap64 (a0_0-1))).f1))))) else (none)) else (none)))=some r:=by rw [if_neg (show ¬ (false=true) by decide)] at H;exact H
    clear H
    have H:=H1
    clear H1
    replace H:=Option.bind_eq_some_iff.mp H
    obtain ⟨t186,A150,H⟩:=H
    replace H:(if 0≤(wrap64 (a0_0-1)) then (if (wrap64 (a0_0-1))<(t186.length:Int) then ((Y0.f kj1 (⟨#[65]⟩:ByteArray) ((rd_T50 t186 (wrap64 (a0_0-1))).f1)).bind fun t191=>((Y19.f a0_1 t191).bind fun t192=>(if t192=true then ((Y0.f kj1 (⟨#[66]⟩:ByteArray) ((rd_T50 t186 (wrap64 (a0_0-1))).f1)).bind fun t193=>((Y19.f a0_2 t193).bind fun t194=>(Y3.j1 kj1 (!t194) a0_0 a0_1 a0_2 a0_3 a0_4 a0_5 ((rd_T50 t186 (wrap64 (a0_0-1))).f1)))) else (Y3.j1 kj1 true a0_0 a0_1 a0_2 a0_3 a0_4 a0_5 ((rd_T50 t186 (wrap64 (a0_0-1))).f1))))) else (none)) else (none))=some r:=H
    have A15:=Aside0.mk A150
    clear A150
    obtain ⟨ji16,hji16⟩:∃ j_:Int,(wrap64 (a0_0-1))=j_:=⟨_,rfl⟩
    replace H:(if 0≤(ji16) then (if (ji16)<(t186.length:Int) then ((Y0.f kj1 (⟨#[65]⟩:ByteArray) ((rd_T50 t186 (ji16)).f1)).bind fun t191=>((Y19.f a0_1 t191).bind fun t192=>(if t192=true then ((Y0.f kj1 (⟨#[66]⟩:ByteArray) ((rd_T50 t186 (ji16)).f1)).bind fun t193=>((Y19.f a0_2 t193).bind fun t194=>(Y3.j1 kj1 (!t194) a0_0 a0_1 a0_2 a0_3 a0_4 a0_5 ((rd_T50 t186 (ji16)).f1)))) else (Y3.j1 kj1 true a0_0 a0_1 a0_2 a0_3 a0_4 a0_5 ((rd_T50 t186 (ji16)).f1))))) else (none)) else (none))=some r:=by first | (rw [hji16] at H;exact H) | (simp only [hji16] at H ⊢;exact H)
    (try rw [hji16] at A15)
    have hji16w:(IntKind.i64.wrap (a0_0-1))=ji16:=(i64_w _).trans hji16
    by_cases c17:0≤(ji16)
    ·rw [if_pos c17] at H
     have c17b0:decide (0≤(ji16))=true:=decide_eq_true c17
     clear c17
     by_cases c18:(ji16)<(t186.length:Int)
     ·rw [if_pos c18] at H
      have c18b0:decide ((ji16)<(t186.length:Int))=true:=decide_eq_true c18
      clear c18
      have HC19:=Aside0.mk H
      clear H
      try go_wp2
      have n0_:=Aside0.mk (blk_drew BK182.out)
      have n1_:=Aside0.mk (below_drew1 HB.out)
      clear BK182
      clear HB
      have BK182:=n0_
      have HB:=n1_
      clear n0_ n1_
      refine start_ (n:=9) (S:=fun w'=>True) (ds:=[]) #[false,false,false,false,false,false,false,false,false] (by kernel_rfl) rfl rfl trivial (fun hHeld=>?_);refine with_tabW Y3.tab3 Y3.bits3 (fun HT_ HW_=>?_)
      generalize wc.drew=w20 at BK182 HB hHeld ⊢
      refine pure_ (i:=1) (N:=some 28) (v:=?_) (a':=?_) #[false,true,false,false,false,false,false,false,false] rfl rfl (any_of HT_.out (by kernel_rfl)) (fun _ _ _ h=>h) (Or.inl ⟨by rfl,?_⟩) ?_ ?_
      rotate_left
      ·intro w'
       go_simp
       with_reducible rfl
      rotate_left
      ·simp only [Act.put,sa_,s0_,ss_,i64_w,i32_w]
       rfl
      have pz_:(0≤((ji16):Int))=True:=eq_true (of_decide_eq_true (by first | (with_reducible assumption) | assumption))
      have qz_:(((ji16):Int)<(t186.length:Int))=True:=eq_true (of_decide_eq_true (by first | (with_reducible assumption) | assumption))
      refine inv_at [0,2,3,4,5,6,7,8] (fun a0_ b a w'=>∃ (v187:Value) (adz_v187:Addr) (gb190:Nat) (m7_:Value) (mz4_:Value) (mz5_:Value),a=putSel a0_ b [(0,27,v187),(2,29,.int .i64 a0_0),(3,30,.int .i64 ji16),(4,31,mz4_),(5,32,mz5_),(6,33,.string ((rd_T50 t186 (ji16)).f1)),(7,3,m7_)]∧(w'.heap[gb182]? = some (.cells #[.int .i64 a0_0,.int .i64 a0_1,.int .i64 a0_2,.string a0_3,.string a0_4,.int .i64 a0_5] 23 (0,0)))∧(Below w.heap.size w w')∧(b 0=true→Kd.R k50 50 w' w.heap.size (fun _=>True) v187 t186)∧(b 0=true→∃ c_:Nat,v187 = .slice (some adz_v187) t186.length c_)∧(b 7=true→b 8=false→w'.heap[gb190]? = some (.cells #[.string (⟨#[]⟩:ByteArray)] 9 (0,0)))∧(b 7=true→w.heap.size≤gb190)∧(b 7=true→w.heap.size≤gb190)∧(b 7=true→gb182≠gb190)∧(b 7=true→gb190≠gb182)∧(b 8=true→w'.heap[gb190]? = some (.cells #[.string ((rd_T50 t186 (ji16)).f1)] 9 (0,0)))∧(b 7=true→(m7_:Value) = .pointer (some ⟨gb190,0,none⟩))∧(b 4=true→(mz4_:Value) = .pointer (some (adz_v187.add (((ji16)).toNat*2))))∧(b 5=true→(mz5_:Value) = .pointer (some ⟨(adz_v187.add (((ji16)).toNat*2)).block,(adz_v187.add (((ji16)).toNat*2)).off+1,none⟩))) HT_.out HW_.out (by kernel_rfl) (by kernel_rfl) ?_ ?_ ?_
      ·exact ⟨.bool false,⟨0,0,none⟩,0,.bool false,.bool false,.bool false,by simp only [putSel,Bool.false_eq_true,if_false],BK182.out,HB.out,fun h_=>absurd h_ (by decide),fun h_=>absurd h_ (by decide),fun h_=>absurd h_ (by decide),fun h_=>absurd h_ (by decide),fun h_=>absurd h_ (by decide),fun h_=>absurd h_ (by decide),fun h_=>absurd h_ (by decide),fun h_=>absurd h_ (by decide),fun h_=>absurd h_ (by decide),fun h_=>absurd h_ (by decide),fun h_=>absurd h_ (by decide)⟩
      ·skip
       clear BK182 HB
       refine steps_cons ?_ ?_
       ·rintro b a w' ⟨v187,adz_v187,gb190,m7_,mz4_,mz5_,ha,Q_BK182,Q_HB,Q_HO188,Q_HA_HO188,Q_BK190,Q_GW190,Q_GE190,Q_NB182_190,Q_NB190_182,Q_BK190_e8,Q_X7_,Q_Xz4_,Q_Xz5_⟩ hb_ hon hoff
        refine ⟨_,rfl,fun K hK=>?_⟩
        replace ha:=Aside0.mk ha
        have BK182:=Aside0.mk Q_BK182
        have HB:=Aside0.mk Q_HB
        refine goes_ Tryd.func23 (by kernel_rfl) rfl #[] (by rfl) rfl rfl (by first | (simp only [List.map_toArray,List.map_cons,List.map_nil,Act.eval,Array.getD_eq_getD_getElem?,Option.getD_some];done) | (simp only [List.map_toArray,List.map_cons,List.map_nil,Act.eval,Array.getD_eq_getD_getElem?,Option.getD_some];rfl)) ?_
        with_reducible refine (Y20.calls  t186 _ A15.out).mono ?_
        rintro e w21 ⟨v187,rfl,ho0,hb⟩
        refine ⟨_,rfl,?_⟩
        have n0_:=Aside0.mk (Kd.R_lower ho0 (below_size (by repeat (first | (with_reducible first | exact HB.out | apply below_alloc | apply pw_below_drewN | apply below_drew1 | refine below_set ?_ GE182.out) | exact HB.out))))
        have n1_:=Aside0.mk (blk_below (g:=gb182) (o:=.cells #[.int .i64 a0_0,.int .i64 a0_1,.int .i64 a0_2,.string a0_3,.string a0_4,.int .i64 a0_5] 23 (0,0)) (by (with_reducible repeat (first | refine blk_drewN ?_ _ | refine blk_drew ?_ | refine blk_alloc ?_ _));exact BK182.out) hb)
        have n2_:=Aside0.mk (below_step (by repeat (first | (with_reducible first | exact HB.out | apply below_alloc | apply pw_below_drewN | apply below_drew1 | refine below_set ?_ GE182.out) | exact HB.out)) hb)
        have z_BK190:=fun (h0_:b 7=true) (h1_:b 8=false)=>(show w21.heap[gb190]? = some (.cells #[.string (⟨#[]⟩:ByteArray)] 9 (0,0)) from by first | exact (blk_below (g:=gb190) (o:=.cells #[.string (⟨#[]⟩:ByteArray)] 9 (0,0)) (by (with_reducible repeat (first | refine blk_drewN ?_ _ | refine blk_drew ?_ | refine blk_alloc ?_ _));exact (Q_BK190 h0_ h1_)) hb))
        clear BK182
        clear HB
        have HO188:=n0_
        have BK182:=n1_
        have HB:=n2_
        clear n0_ n1_ n2_
        (try clear hb)
        (try clear hb2)
        (try clear hk)
        (try clear hi)
        (try clear ho0)
        obtain ⟨A0_,c0_,e0_⟩:=Kd.R_slice HO188.out
        have hF_:=HO188.out
        rw [e0_] at hF_
        obtain ⟨adn_,en_,hxn_⟩:=at_T50 (Kd.R_reads' hF_).2.2 (ji16) (of_eq_true pz_) (of_eq_true qz_)
        cases en_
        refine hK.out _ _ ⟨v187,adn_,gb190,m7_,mz4_,mz5_,(by rw [ha.out];exact putSel_upk 0 hb_ rfl rfl rfl),(by (with_reducible repeat (first | refine blk_drewN ?_ _ | refine blk_drew ?_ | refine blk_alloc ?_ _));exact BK182.out),(by repeat (first | (with_reducible first | exact HB.out | apply below_alloc | apply pw_below_drewN | apply below_drew1 | refine below_set ?_ GE182.out) | exact HB.out)),fun _=>(by (with_reducible repeat (first | apply Kd.R_alloc | apply Kd.R_drewN | apply Kd.R_drew));exact HO188.out),fun _=>⟨_,e0_⟩,z_BK190,Q_GW190,Q_GE190,Q_NB182_190,Q_NB190_182,fun h0_=>absurd ((hoff 8 (by kernel_rfl)).symm.trans h0_) (by decide),Q_X7_,fun h0_=>absurd ((hoff 4 (by kernel_rfl)).symm.trans h0_) (by decide),fun h0_=>absurd ((hoff 5 (by kernel_rfl)).symm.trans h0_) (by decide)⟩
       refine steps_cons ?_ ?_
       ·rintro b a w' ⟨v187,adz_v187,gb190,m7_,mz4_,mz5_,ha,Q_BK182,Q_HB,Q_HO188,Q_HA_HO188,Q_BK190,Q_GW190,Q_GE190,Q_NB182_190,Q_NB190_182,Q_BK190_e8,Q_X7_,Q_Xz4_,Q_Xz5_⟩ hb_ hon hoff
        refine ⟨_,rfl,fun K hK=>?_⟩
        have e28:a.tmps[28]? = some (.pointer (some ⟨gb182,0,none⟩)):=by rw [ha];exact (putSel_off rfl).trans rfl
        replace ha:=Aside0.mk ha
        have BK182:=Aside0.mk Q_BK182
        have HB:=Aside0.mk Q_HB
        have hc0_:w'.cell? ⟨gb182,0,none⟩=some (.int .i64 a0_0):=(blk_cell BK182.out 0).trans rfl
        have hc1_:w'.cell? ⟨gb182,1,none⟩=some (.int .i64 a0_1):=(blk_cell BK182.out 1).trans rfl
        have hc2_:w'.cell? ⟨gb182,2,none⟩=some (.int .i64 a0_2):=(blk_cell BK182.out 2).trans rfl
        have hc3_:w'.cell? ⟨gb182,3,none⟩=some (.string a0_3):=(blk_cell BK182.out 3).trans rfl
        have hc4_:w'.cell? ⟨gb182,4,none⟩=some (.string a0_4):=(blk_cell BK182.out 4).trans rfl
        have hc5_:w'.cell? ⟨gb182,5,none⟩=some (.int .i64 a0_5):=(blk_cell BK182.out 5).trans rfl
        refine value_ (w1:=w') (v:=.int .i64 a0_0) (by rfl) rfl ?_ ?_
        ·go_simp
         (try simp only [i64_w])
         try rfl
        refine hK.out _ _ ⟨v187,adz_v187,gb190,m7_,mz4_,mz5_,(by rw [ha.out];exact putSel_upk 1 hb_ rfl rfl rfl),Q_BK182,Q_HB,Q_HO188,Q_HA_HO188,Q_BK190,Q_GW190,Q_GE190,Q_NB182_190,Q_NB190_182,fun h0_=>absurd ((hoff 8 (by kernel_rfl)).symm.trans h0_) (by decide),Q_X7_,Q_Xz4_,Q_Xz5_⟩
       refine steps_cons ?_ ?_
       ·rintro b a w' ⟨v187,adz_v187,gb190,m7_,mz4_,mz5_,ha,Q_BK182,Q_HB,Q_HO188,Q_HA_HO188,Q_BK190,Q_GW190,Q_GE190,Q_NB182_190,Q_NB190_182,Q_BK190_e8,Q_X7_,Q_Xz4_,Q_Xz5_⟩ hb_ hon hoff
        refine ⟨_,rfl,fun K hK=>?_⟩
        have e29:a.tmps[29]? = some (.int .i64 a0_0):=by rw [ha];exact putSel_on (e:=(2,29,.int .i64 a0_0)) 1 rfl rfl (hon 2 (by kernel_rfl)) rfl
        replace ha:=Aside0.mk ha
        have BK182:=Aside0.mk Q_BK182
        have HB:=Aside0.mk Q_HB
        refine value_ (w1:=w') (v:=.int .i64 ji16) (by rfl) rfl ?_ ?_
        ·go_simp
         (try simp only [i64_w])
         try rfl
        refine hK.out _ _ ⟨v187,adz_v187,gb190,m7_,mz4_,mz5_,(by rw [ha.out];exact putSel_upk 2 hb_ rfl rfl rfl),Q_BK182,Q_HB,Q_HO188,Q_HA_HO188,Q_BK190,Q_GW190,Q_GE190,Q_NB182_190,Q_NB190_182,fun h0_=>absurd ((hoff 8 (by kernel_rfl)).symm.trans h0_) (by decide),Q_X7_,Q_Xz4_,Q_Xz5_⟩
       refine steps_cons ?_ ?_
       ·rintro b a w' ⟨v187,adz_v187,gb190,m7_,mz4_,mz5_,ha,Q_BK182,Q_HB,Q_HO188,Q_HA_HO188,Q_BK190,Q_GW190,Q_GE190,Q_NB182_190,Q_NB190_182,Q_BK190_e8,Q_X7_,Q_Xz4_,Q_Xz5_⟩ hb_ hon hoff
        refine ⟨_,rfl,fun K hK=>?_⟩
        have e27:a.tmps[27]? = some (v187):=by rw [ha];exact putSel_on (e:=(0,27,v187)) 0 rfl rfl (hon 0 (by kernel_rfl)) rfl
        have e30:a.tmps[30]? = some (.int .i64 ji16):=by rw [ha];exact putSel_on (e:=(3,30,.int .i64 ji16)) 2 rfl rfl (hon 3 (by kernel_rfl)) rfl
        replace ha:=Aside0.mk ha
        have BK182:=Aside0.mk Q_BK182
        have HB:=Aside0.mk Q_HB
        have HO188:=Aside0.mk (Q_HO188 (hon 0 (by kernel_rfl)))
        obtain ⟨c_,hv_⟩:=Q_HA_HO188 (hon 0 (by kernel_rfl))
        rw [hv_] at e27
        refine value_ (w1:=w') (v:=.pointer (some (adz_v187.add (((ji16)).toNat*2)))) (by rfl) rfl ?_ ?_
        ·go_simp
         (try simp only [i64_w])
         try rfl
        refine hK.out _ _ ⟨v187,adz_v187,gb190,m7_,(.pointer (some (adz_v187.add (((ji16)).toNat*2)))),mz5_,(by rw [ha.out];exact putSel_upk 3 hb_ rfl rfl rfl),Q_BK182,Q_HB,Q_HO188,Q_HA_HO188,Q_BK190,Q_GW190,Q_GE190,Q_NB182_190,Q_NB190_182,fun h0_=>absurd ((hoff 8 (by kernel_rfl)).symm.trans h0_) (by decide),Q_X7_,fun _=>rfl,Q_Xz5_⟩
       refine steps_cons ?_ ?_
       ·rintro b a w' ⟨v187,adz_v187,gb190,m7_,mz4_,mz5_,ha,Q_BK182,Q_HB,Q_HO188,Q_HA_HO188,Q_BK190,Q_GW190,Q_GE190,Q_NB182_190,Q_NB190_182,Q_BK190_e8,Q_X7_,Q_Xz4_,Q_Xz5_⟩ hb_ hon hoff
        refine ⟨_,rfl,fun K hK=>?_⟩
        have e31:a.tmps[31]? = some (mz4_):=by rw [ha];exact putSel_on (e:=(4,31,mz4_)) 3 rfl rfl (hon 4 (by kernel_rfl)) rfl
        rw [Q_Xz4_ (hon 4 (by kernel_rfl))] at e31
        replace ha:=Aside0.mk ha
        have BK182:=Aside0.mk Q_BK182
        have HB:=Aside0.mk Q_HB
        have HO188:=Aside0.mk (Q_HO188 (hon 0 (by kernel_rfl)))
        refine value_ (w1:=w') (v:=.pointer (some ⟨(adz_v187.add (((ji16)).toNat*2)).block,(adz_v187.add (((ji16)).toNat*2)).off+1,none⟩)) (by rfl) rfl ?_ ?_
        ·go_simp
         (try simp only [i64_w])
         try rfl
        refine hK.out _ _ ⟨v187,adz_v187,gb190,m7_,mz4_,(.pointer (some ⟨(adz_v187.add (((ji16)).toNat*2)).block,(adz_v187.add (((ji16)).toNat*2)).off+1,none⟩)),(by rw [ha.out];exact putSel_upk 4 hb_ rfl rfl rfl),Q_BK182,Q_HB,Q_HO188,Q_HA_HO188,Q_BK190,Q_GW190,Q_GE190,Q_NB182_190,Q_NB190_182,fun h0_=>absurd ((hoff 8 (by kernel_rfl)).symm.trans h0_) (by decide),Q_X7_,Q_Xz4_,fun _=>rfl⟩
       refine steps_cons ?_ ?_
       ·rintro b a w' ⟨v187,adz_v187,gb190,m7_,mz4_,mz5_,ha,Q_BK182,Q_HB,Q_HO188,Q_HA_HO188,Q_BK190,Q_GW190,Q_GE190,Q_NB182_190,Q_NB190_182,Q_BK190_e8,Q_X7_,Q_Xz4_,Q_Xz5_⟩ hb_ hon hoff
        refine ⟨_,rfl,fun K hK=>?_⟩
        have e32:a.tmps[32]? = some (mz5_):=by rw [ha];exact putSel_on (e:=(5,32,mz5_)) 4 rfl rfl (hon 5 (by kernel_rfl)) rfl
        rw [Q_Xz5_ (hon 5 (by kernel_rfl))] at e32
        replace ha:=Aside0.mk ha
        have BK182:=Aside0.mk Q_BK182
        have HB:=Aside0.mk Q_HB
        have HO188:=Aside0.mk (Q_HO188 (hon 0 (by kernel_rfl)))
        obtain ⟨c_,hv_⟩:=Q_HA_HO188 (hon 0 (by kernel_rfl))
        have hF_:=HO188.out
        rw [hv_] at hF_
        obtain ⟨ad189_z,e189_z,hx189_0_z,hx189_1_z⟩:=at_T50 (Kd.R_reads' hF_).2.2 (ji16) (of_eq_true pz_) (of_eq_true qz_)
        cases e189_z
        have hs0_:w'.cell? (adz_v187.add (((ji16)).toNat*2))=some (.string ((rd_T50 t186 (ji16)).f0)):=(by first | exact hx189_0_z | (have h_:=hx189_0_z;(try simp only [Int.reduceToNat,Nat.zero_mul,Nat.reduceMul,Nat.reduceEqDiff,Go.Addr.add,↓reduceIte,Addr.add_zero'] at h_);exact h_))
        have hs1_:w'.cell? ⟨(adz_v187.add (((ji16)).toNat*2)).block,(adz_v187.add (((ji16)).toNat*2)).off+1,none⟩=some (.string ((rd_T50 t186 (ji16)).f1)):=(by first | exact hx189_1_z | (have h_:=hx189_1_z;(try simp only [Int.reduceToNat,Nat.zero_mul,Nat.reduceMul,Nat.reduceEqDiff,Go.Addr.add,↓reduceIte,Addr.add_zero'] at h_);exact h_))
        refine value_ (w1:=w') (v:=.string ((rd_T50 t186 (ji16)).f1)) (by rfl) rfl ?_ ?_
        ·go_simp
         (try simp only [i64_w])
         try rfl
        refine hK.out _ _ ⟨v187,adz_v187,gb190,m7_,mz4_,mz5_,(by rw [ha.out];exact putSel_upk 5 hb_ rfl rfl rfl),Q_BK182,Q_HB,Q_HO188,Q_HA_HO188,Q_BK190,Q_GW190,Q_GE190,Q_NB182_190,Q_NB190_182,fun h0_=>absurd ((hoff 8 (by kernel_rfl)).symm.trans h0_) (by decide),Q_X7_,Q_Xz4_,Q_Xz5_⟩
       refine steps_cons ?_ ?_
       ·rintro b a w' ⟨v187,adz_v187,gb190,m7_,mz4_,mz5_,ha,Q_BK182,Q_HB,Q_HO188,Q_HA_HO188,Q_BK190,Q_GW190,Q_GE190,Q_NB182_190,Q_NB190_182,Q_BK190_e8,Q_X7_,Q_Xz4_,Q_Xz5_⟩ hb_ hon hoff
        refine ⟨_,rfl,fun K hK=>?_⟩
        replace ha:=Aside0.mk ha
        have BK182:=Aside0.mk Q_BK182
        have HB:=Aside0.mk Q_HB
        refine box_step ?hg (N:=3) ?hd (cs:=#[.string (⟨#[]⟩:ByteArray)]) (t:=9) ?hr ?_;(case hd=>rfl);(case hg=>rfl);(case hr=>first | (go_simp;done) | (go_simp;rfl))
        intro gb190 hg w21 hbox hb
        have n0_:=Aside0.mk (blk_below (g:=gb182) (o:=.cells #[.int .i64 a0_0,.int .i64 a0_1,.int .i64 a0_2,.string a0_3,.string a0_4,.int .i64 a0_5] 23 (0,0)) (by (with_reducible repeat (first | refine blk_drewN ?_ _ | refine blk_drew ?_ | refine blk_alloc ?_ _));exact BK182.out) hb)
        have n1_:=Aside0.mk (below_step (by repeat (first | (with_reducible first | exact HB.out | apply below_alloc | apply pw_below_drewN | apply below_drew1 | refine below_set ?_ GE182.out) | exact HB.out)) hb)
        have n2_:=Aside0.mk (hbox)
        have n3_:=Aside0.mk ((by rw [hg];exact (below_size (by repeat (first | (with_reducible first | exact HB.out | apply below_alloc | apply pw_below_drewN | apply below_drew1 | refine below_set ?_ GE182.out) | exact HB.out))):w.heap.size≤gb190))
        have n4_:=Aside0.mk ((by rw [hg];exact (below_size (by repeat (first | (with_reducible first | exact HB.out | apply below_alloc | apply pw_below_drewN | apply below_drew1 | refine below_set ?_ GE182.out) | exact HB.out))):w.heap.size≤gb190))
        have n5_:=Aside0.mk ((by rw [hg];exact Nat.ne_of_lt (blk_lt (g:=gb182) (o:=.cells #[.int .i64 a0_0,.int .i64 a0_1,.int .i64 a0_2,.string a0_3,.string a0_4,.int .i64 a0_5] 23 (0,0)) (by (with_reducible repeat (first | refine blk_drewN ?_ _ | refine blk_drew ?_ | refine blk_alloc ?_ _));exact BK182.out)):gb182≠gb190))
        have n6_:=Aside0.mk ((by rw [hg];exact Nat.ne_of_gt (blk_lt (g:=gb182) (o:=.cells #[.int .i64 a0_0,.int .i64 a0_1,.int .i64 a0_2,.string a0_3,.string a0_4,.int .i64 a0_5] 23 (0,0)) (by (with_reducible repeat (first | refine blk_drewN ?_ _ | refine blk_drew ?_ | refine blk_alloc ?_ _));exact BK182.out)):gb190≠gb182))
        have z_HO188:=fun (h0_:b 0=true)=>(show Kd.R k50 50 w21 w.heap.size (fun _=>True) v187 t186 from by first | exact (Kd.R_below (by (with_reducible repeat (first | apply Kd.R_alloc | apply Kd.R_drewN | apply Kd.R_drew));exact (Q_HO188 h0_)) hb) | exact Kd.R_mono (Kd.R_below (by (with_reducible repeat (first | apply Kd.R_alloc | apply Kd.R_drewN | apply Kd.R_drew));exact (Q_HO188 h0_)) hb) (fun _ h_=>by first | trivial | exact h_ | exact h_.1))
        clear BK182
        clear HB
        have BK182:=n0_
        have HB:=n1_
        have BK190:=n2_
        have GW190:=n3_
        have GE190:=n4_
        have NB182_190:=n5_
        have NB190_182:=n6_
        clear n0_ n1_ n2_ n3_ n4_ n5_ n6_
        clear hb hbox hg
        refine hK.out _ _ ⟨v187,adz_v187,gb190,(.pointer (some ⟨gb190,0,none⟩)),mz4_,mz5_,(by rw [ha.out];exact putSel_upk 6 hb_ rfl rfl rfl),(by (with_reducible repeat (first | refine blk_drewN ?_ _ | refine blk_drew ?_ | refine blk_alloc ?_ _));exact BK182.out),(by repeat (first | (with_reducible first | exact HB.out | apply below_alloc | apply pw_below_drewN | apply below_drew1 | refine below_set ?_ GE182.out | refine below_set ?_ GE190.out) | exact HB.out)),z_HO188,Q_HA_HO188,fun _ _=>(by (with_reducible repeat (first | refine blk_drewN ?_ _ | refine blk_drew ?_ | refine blk_alloc ?_ _));exact BK190.out),fun _=>GW190.out,fun _=>GE190.out,fun _=>NB182_190.out,fun _=>NB190_182.out,fun h0_=>absurd ((hoff 8 (by kernel_rfl)).symm.trans h0_) (by decide),fun _=>rfl,Q_Xz4_,Q_Xz5_⟩
       refine steps_cons ?_ ?_
       ·rintro b a w' ⟨v187,adz_v187,gb190,m7_,mz4_,mz5_,ha,Q_BK182,Q_HB,Q_HO188,Q_HA_HO188,Q_BK190,Q_GW190,Q_GE190,Q_NB182_190,Q_NB190_182,Q_BK190_e8,Q_X7_,Q_Xz4_,Q_Xz5_⟩ hb_ hon hoff
        refine ⟨_,rfl,fun K hK=>?_⟩
        have e3:a.tmps[3]? = some (m7_):=by rw [ha];exact putSel_on (e:=(7,3,m7_)) 6 rfl rfl (hon 7 (by kernel_rfl)) rfl
        rw [Q_X7_ (hon 7 (by kernel_rfl))] at e3
        have e33:a.tmps[33]? = some (.string ((rd_T50 t186 (ji16)).f1)):=by rw [ha];exact putSel_on (e:=(6,33,.string ((rd_T50 t186 (ji16)).f1))) 5 rfl rfl (hon 6 (by kernel_rfl)) rfl
        replace ha:=Aside0.mk ha
        have BK182:=Aside0.mk Q_BK182
        have HB:=Aside0.mk Q_HB
        have HO188:=Aside0.mk (Q_HO188 (hon 0 (by kernel_rfl)))
        have BK190:=Aside0.mk (Q_BK190 (hon 7 (by kernel_rfl)) hb_)
        have GW190:=Aside0.mk (Q_GW190 (hon 7 (by kernel_rfl)))
        have GE190:=Aside0.mk (Q_GE190 (hon 7 (by kernel_rfl)))
        have NB182_190:=Aside0.mk (Q_NB182_190 (hon 7 (by kernel_rfl)))
        have NB190_182:=Aside0.mk (Q_NB190_182 (hon 7 (by kernel_rfl)))
        have hs24:w'.cell? ⟨gb190,0,none⟩=some (.string (⟨#[]⟩:ByteArray)):=(blk_cell BK190.out 0).trans rfl
        have hfs24:=blk_frozen BK190.out 0
        have hns24_0:=NB182_190.out
        have hms24_0:=NB190_182.out
        refine skip_ (w1:=?_) (by rfl) rfl ?_ ?_
        rotate_left
        ·go_simp
         rfl
        refine hK.out _ _ ⟨v187,adz_v187,gb190,m7_,mz4_,mz5_,(by rw [ha.out];exact putSel_none (v:=undef) rfl),(by (with_reducible repeat (first | refine blk_drewN ?_ _ | refine blk_drew ?_ | refine blk_alloc ?_ _));refine blk_far ?_ NB182_190.out _;(with_reducible repeat (first | refine blk_drewN ?_ _ | refine blk_drew ?_ | refine blk_alloc ?_ _));exact BK182.out),(by repeat (first | (with_reducible first | exact HB.out | apply below_alloc | apply pw_below_drewN | apply below_drew1 | refine below_set ?_ GE182.out | refine below_set ?_ GE190.out) | exact HB.out)),fun _=>(by (with_reducible repeat (first | apply Kd.R_alloc | apply Kd.R_drewN | apply Kd.R_drew));exact Kd.R_mono (Kd.R_far (p:=⟨gb190,0,none⟩) (Kd.R_types HO188.out BK190.out (by decide)) (fun _ hk=>hk.2) (.string ((rd_T50 t186 (ji16)).f1))) (fun _ hk=>trivial)),Q_HA_HO188,fun _ h1_=>absurd ((up_self b 8).symm.trans h1_) (by decide),fun _=>GW190.out,fun _=>GE190.out,fun _=>NB182_190.out,fun _=>NB190_182.out,fun _=>(by (with_reducible repeat (first | refine blk_drewN ?_ _ | refine blk_drew ?_ | refine blk_alloc ?_ _));refine blk_put (cs:=#[.string (⟨#[]⟩:ByteArray)]) ?_ 0 _ rfl;(with_reducible repeat (first | refine blk_drewN ?_ _ | refine blk_drew ?_ | refine blk_alloc ?_ _));exact BK190.out),Q_X7_,Q_Xz4_,Q_Xz5_⟩
       exact steps_nil
      rintro b a w24 hall ⟨v187,adz_v187,gb190,m7_,mz4_,mz5_,ha,Q_BK182,Q_HB,Q_HO188,Q_HA_HO188,Q_BK190,Q_GW190,Q_GE190,Q_NB182_190,Q_NB190_182,Q_BK190_e8,Q_X7_,Q_Xz4_,Q_Xz5_⟩
      clear BK182 HB
      have hb0_:=hall 0 (by kernel_rfl)
      have hb2_:=hall 2 (by kernel_rfl)
      have hb3_:=hall 3 (by kernel_rfl)
      have hb4_:=hall 4 (by kernel_rfl)
      have hb5_:=hall 5 (by kernel_rfl)
      have hb6_:=hall 6 (by kernel_rfl)
      have hb7_:=hall 7 (by kernel_rfl)
      have hb8_:=hall 8 (by kernel_rfl)
      subst ha
      obtain rfl:=Q_X7_ hb7_
      obtain rfl:=Q_Xz4_ hb4_
      obtain rfl:=Q_Xz5_ hb5_
      simp only [putSel,hb0_,hb2_,hb3_,hb4_,hb5_,hb6_,hb7_,hb8_,if_true,Act.put,List.setIfInBounds_toArray,List.set_cons_zero,List.set_cons_succ]
      have BK182:=Aside0.mk Q_BK182
      clear Q_BK182
      have HB:=Aside0.mk Q_HB
      clear Q_HB
      have HO188:=Aside0.mk (Q_HO188 hb0_)
      clear Q_HO188
      clear Q_HA_HO188
      clear Q_BK190
      have GW190:=Aside0.mk (Q_GW190 hb7_)
      clear Q_GW190
      have GE190:=Aside0.mk (Q_GE190 hb7_)
      clear Q_GE190
      have NB182_190:=Aside0.mk (Q_NB182_190 hb7_)
      clear Q_NB182_190
      have NB190_182:=Aside0.mk (Q_NB190_182 hb7_)
      clear Q_NB190_182
      have BK190:=Aside0.mk (Q_BK190_e8 hb8_)
      clear Q_BK190_e8
      clear hall hb0_ hb2_ hb3_ hb4_ hb5_ hb6_ hb7_ hb8_
      obtain ⟨Ao25,co25,eo25⟩:=Kd.R_slice HO188.out
      (first | subst eo25 | (injection eo25 with f1_ f2_ f3_;have f4_:=f1_.symm;have f5_:=f3_.symm;clear f1_ f2_ f3_;subst f4_;subst f5_))
      have p189:0≤((ji16):Int):=of_decide_eq_true (by first | (with_reducible assumption) | assumption)
      have q189:(ji16)<(t186.length:Int):=of_decide_eq_true (by first | (with_reducible assumption) | assumption)
      obtain ⟨ad189,e189,hx189_0,hx189_1⟩:=at_T50 (Kd.R_reads' HO188.out).2.2 (ji16) p189 q189
      cases e189
      replace p189:=eq_true p189
      replace q189:=eq_true q189
      go_upto_region 6 with (fail)
      go_cut [50] (fun v50 wc=>∃ (kq:Nat) (x50_18:Bool),v50 = .bool x50_18∧Aside0 (Y3.j1 kq x50_18 a0_0 a0_1 a0_2 a0_3 a0_4 a0_5 ((rd_T50 t186 (ji16)).f1)=some r)∧Aside0 (kq≤kj1)∧Aside0 (wc.heap[gb182]? = some (.cells #[.int .i64 a0_0,.int .i64 a0_1,.int .i64 a0_2,.string a0_3,.string a0_4,.int .i64 a0_5] 23 (0,0)))∧Aside0 (wc.heap[gb190]? = some (.cells #[.string ((rd_T50 t186 (ji16)).f1)] 9 (0,0)))∧Aside0 (Below w.heap.size w wc))
      case first=>as_aux_lemma =>
       have H:=HC19.out
       clear HC19
       replace H:=Option.bind_eq_some_iff.mp H
       obtain ⟨t191,A260,H⟩:=H
       replace H:((Y19.f a0_1 t191).bind fun t192=>(if t192=true then ((Y0.f kj1 (⟨#[66]⟩:ByteArray) ((rd_T50 t186 (ji16)).f1)).bind fun t193=>((Y19.f a0_2 t193).bind fun t194=>(Y3.j1 kj1 (!t194) a0_0 a0_1 a0_2 a0_3 a0_4 a0_5 ((rd_T50 t186 (ji16)).f1)))) else (Y3.j1 kj1 true a0_0 a0_1 a0_2 a0_3 a0_4 a0_5 ((rd_T50 t186 (ji16)).f1))))=some r:=H
       have A26:=Aside0.mk A260
       clear A260
       replace H:=Option.bind_eq_some_iff.mp H
       obtain ⟨t192,A270,H⟩:=H
       replace H:(if t192=true then ((Y0.f kj1 (⟨#[66]⟩:ByteArray) ((rd_T50 t186 (ji16)).f1)).bind fun t193=>((Y19.f a0_2 t193).bind fun t194=>(Y3.j1 kj1 (!t194) a0_0 a0_1 a0_2 a0_3 a0_4 a0_5 ((rd_T50 t186 (ji16)).f1)))) else (Y3.j1 kj1 true a0_0 a0_1 a0_2 a0_3 a0_4 a0_5 ((rd_T50 t186 (ji16)).f1)))=some r:=H
       have A27:=Aside0.mk A270
       clear A270
       by_cases c28:t192=true
       ·subst c28
        have H1:((Y0.f kj1 (⟨#[66]⟩:ByteArray) ((rd_T50 t186 (ji16)).f1)).bind fun t193=>((Y19.f a0_2 t193).bind fun t194=>(Y3.j1 kj1 (!t194) a0_0 a0_1 a0_2 a0_3 a0_4 a0_5 ((rd_T50 t186 (ji16)).f1))))=some r:=by rw [if_pos rfl] at H;exact H
        clear H
        have H:=H1
        clear H1
        replace H:=Option.bind_eq_some_iff.mp H
        obtain ⟨t193,A290,H⟩:=H
        replace H:((Y19.f a0_2 t193).bind fun t194=>(Y3.j1 kj1 (!t194) a0_0 a0_1 a0_2 a0_3 a0_4 a0_5 ((rd_T50 t186 (ji16)).f1)))=some r:=H
        have A29:=Aside0.mk A290
        clear A290
        replace H:=Option.bind_eq_some_iff.mp H
        obtain ⟨t194,A300,H⟩:=H
        replace H:(Y3.j1 kj1 (!t194) a0_0 a0_1 a0_2 a0_3 a0_4 a0_5 ((rd_T50 t186 (ji16)).f1))=some r:=H
        have A30:=Aside0.mk A300
        clear A300
        have H':=Aside0.mk H
        clear H
        try go_wp2
        have n0_:=Aside0.mk (Kd.R_drew HO188.out)
        have n1_:=Aside0.mk (blk_drew BK182.out)
        have n2_:=Aside0.mk (blk_drew BK190.out)
        have n3_:=Aside0.mk (below_drew1 HB.out)
        clear HO188
        clear BK182
        clear BK190
        clear HB
        have HO188:=n0_
        have BK182:=n1_
        have BK190:=n2_
        have HB:=n3_
        clear n0_ n1_ n2_ n3_
        refine start_ (n:=16) (S:=fun w'=>w'.cell? ⟨gb182,0,none⟩=some (.int .i64 a0_0)∧w'.cell? ⟨gb182,1,none⟩=some (.int .i64 a0_1)∧w'.cell? ⟨gb182,2,none⟩=some (.int .i64 a0_2)∧w'.cell? ⟨gb182,3,none⟩=some (.string a0_3)∧w'.cell? ⟨gb182,4,none⟩=some (.string a0_4)∧w'.cell? ⟨gb182,5,none⟩=some (.int .i64 a0_5)) (ds:=[]) Y3.q0 (by kernel_rfl) rfl rfl ⟨(blk_cell BK182.out 0).trans rfl,(blk_cell BK182.out 1).trans rfl,(blk_cell BK182.out 2).trans rfl,(blk_cell BK182.out 3).trans rfl,(blk_cell BK182.out 4).trans rfl,(blk_cell BK182.out 5).trans rfl⟩ (fun hHeld=>?_);refine with_tabW Y3.tab6 Y3.bits6 (fun HT_ HW_=>?_)
        generalize w24.drew=w31 at HO188 BK182 BK190 HB hHeld ⊢
        refine pure_ (i:=0) (N:=some 35) (v:=?_) (a':=?_) Y3.q1 rfl rfl (any_of HT_.out (by kernel_rfl)) (fun _ _ _ h=>h) (Or.inl ⟨by rfl,?_⟩) ?_ ?_
        rotate_left
        ·intro w'
         go_simp
         with_reducible rfl
        rotate_left
        ·simp only [Act.put,sa_,s0_,ss_,i64_w,i32_w]
         rfl
        refine pure_ (i:=1) (N:=some 36) (v:=?_) (a':=?_) Y3.q2 rfl rfl (any_of HT_.out (by kernel_rfl)) (fun _ _ _ h=>h) (Or.inl ⟨by rfl,?_⟩) ?_ ?_
        rotate_left
        ·intro w'
         go_simp
         with_reducible rfl
        rotate_left
        ·simp only [Act.put,sa_,s0_,ss_,i64_w,i32_w]
         rfl
        refine pure_ (i:=3) (N:=some 38) (v:=?_) (a':=?_) Y3.q3 rfl rfl (any_of HT_.out (by kernel_rfl)) (fun _ _ _ h=>h) (Or.inl ⟨by rfl,?_⟩) ?_ ?_
        rotate_left
        ·intro w'
         go_simp
         with_reducible rfl
        rotate_left
        ·simp only [Act.put,sa_,s0_,ss_,i64_w,i32_w]
         rfl
        refine take_ (i:=2) (N:=some 37) (v:=?_) (a':=?_) Y3.q4 rfl rfl (take_ofW HT_.out HW_.out (by kernel_rfl)) (fun _ _ _ h=>h) (Or.inl ⟨by rfl,?_⟩) hHeld ?_ ?_
        rotate_left
        ·rintro w' ⟨s0,s1,s2,s3,s4,s5⟩
         go_simp
         with_reducible rfl
        rotate_left
        ·simp only [Act.put,sa_,s0_,ss_,i64_w,i32_w]
         rfl
        refine one_ (i:=4) (N:=some 39) Y3.q5 rfl rfl (one_of HT_.out (by kernel_rfl)) (by decide) (fun K hK=>?_)
        refine goesC_ Tryd.func39 (by kernel_rfl) rfl #[.string (⟨#[65]⟩:ByteArray),.pointer (some ⟨gb190,0,none⟩)] (by rfl) rfl rfl (by rfl) (by first | rfl | (simp only [List.map_toArray,List.map_cons,List.map_nil,List.append_toArray,List.cons_append,List.nil_append];first | done | rfl)) ?_
        with_reducible refine (Y0.calls kj1 (⟨#[65]⟩:ByteArray) gb190 ((rd_T50 t186 (ji16)).f1) t191 _ ?side1 A26.out).mono ?_
        (case side1=>(with_reducible repeat (first | refine blk_drewN ?_ _ | refine blk_drew ?_ | refine blk_alloc ?_ _));exact BK190.out)
        rintro e w32 ⟨rfl,hb⟩
        refine ⟨_,rfl,?_⟩
        have n0_:=Aside0.mk (Kd.R_below (by (with_reducible repeat (first | apply Kd.R_alloc | apply Kd.R_drewN | apply Kd.R_drew));exact HO188.out) hb)
        have n1_:=Aside0.mk (blk_below (g:=gb182) (o:=.cells #[.int .i64 a0_0,.int .i64 a0_1,.int .i64 a0_2,.string a0_3,.string a0_4,.int .i64 a0_5] 23 (0,0)) (by (with_reducible repeat (first | refine blk_drewN ?_ _ | refine blk_drew ?_ | refine blk_alloc ?_ _));exact BK182.out) hb)
        have n2_:=Aside0.mk (blk_below (g:=gb190) (o:=.cells #[.string ((rd_T50 t186 (ji16)).f1)] 9 (0,0)) (by (with_reducible repeat (first | refine blk_drewN ?_ _ | refine blk_drew ?_ | refine blk_alloc ?_ _));exact BK190.out) hb)
        have n3_:=Aside0.mk (below_step (by repeat (first | (with_reducible first | exact HB.out | apply below_alloc | apply pw_below_drewN | apply below_drew1 | refine below_set ?_ GE182.out | refine below_set ?_ GE190.out) | exact HB.out)) hb)
        clear HO188
        clear BK182
        clear BK190
        clear HB
        have HO188:=n0_
        have BK182:=n1_
        have BK190:=n2_
        have HB:=n3_
        clear n0_ n1_ n2_ n3_
        (try clear hb)
        (try clear hb2)
        (try clear hk)
        (try clear hi)
        refine hK.out _ _ ⟨(blk_cell BK182.out 0).trans rfl,(blk_cell BK182.out 1).trans rfl,(blk_cell BK182.out 2).trans rfl,(blk_cell BK182.out 3).trans rfl,(blk_cell BK182.out 4).trans rfl,(blk_cell BK182.out 5).trans rfl⟩ (fun hHeld=>?_)
        clear hK K
        refine norm_ (a':=?_) ?_ ?_
        rotate_left
        ·show Act.put _ (some 39) _=_
         simp only [Act.put,sa_,s0_,ss_,i64_w,i32_w]
         rfl
        refine one_ (i:=5) (N:=some 40) Y3.q6 rfl rfl (one_of HT_.out (by kernel_rfl)) (by decide) (fun K hK=>?_)
        refine goesD_ Tryd.func41 (by kernel_rfl) rfl #[.int .i64 a0_1,.bool t191] (by rfl) rfl rfl (by rfl) (by (try simp only [List.map_toArray,List.map_cons,List.map_nil]);first | done | rfl | (simp only [List.length_drop,List.length_take];rfl)) ?_
        with_reducible refine (Y19.calls a0_1 t191 true _ A27.out).mono ?_
        rintro e w' ⟨rfl,⟨nd,rfl⟩⟩
        refine ⟨_,rfl,?_⟩
        refine hK.out _ _ ⟨(blk_cell BK182.out 0).trans rfl,(blk_cell BK182.out 1).trans rfl,(blk_cell BK182.out 2).trans rfl,(blk_cell BK182.out 3).trans rfl,(blk_cell BK182.out 4).trans rfl,(blk_cell BK182.out 5).trans rfl⟩ (fun hHeld=>?_)
        clear hK K
        refine norm_ (a':=?_) ?_ ?_
        rotate_left
        ·show Act.put _ (some 40) _=_
         simp only [Act.put,sa_,s0_,ss_,i64_w,i32_w]
         rfl
        refine pure_ (i:=6) (N:=some 41) (v:=?_) (a':=?_) Y3.q7 rfl rfl (any_of HT_.out (by kernel_rfl)) (fun _ _ _ h=>h) (Or.inl ⟨by rfl,?_⟩) ?_ ?_
        rotate_left
        ·intro w'
         go_simp
         with_reducible rfl
        rotate_left
        ·simp only [Act.put,sa_,s0_,ss_,i64_w,i32_w]
         rfl
        refine pure_ (i:=7) (N:=some 42) (v:=?_) (a':=?_) Y3.q8 rfl rfl (any_of HT_.out (by kernel_rfl)) (fun _ _ _ h=>h) (Or.inl ⟨by rfl,?_⟩) ?_ ?_
        rotate_left
        ·intro w'
         go_simp
         with_reducible rfl
        rotate_left
        ·simp only [Act.put,sa_,s0_,ss_,i64_w,i32_w]
         rfl
        refine pure_ (i:=8) (N:=some 43) (v:=?_) (a':=?_) Y3.q9 rfl rfl (any_of HT_.out (by kernel_rfl)) (fun _ _ _ h=>h) (Or.inl ⟨by rfl,?_⟩) ?_ ?_
        rotate_left
        ·intro w'
         go_simp
         with_reducible rfl
        rotate_left
        ·simp only [Act.put,sa_,s0_,ss_,i64_w,i32_w]
         rfl
        refine pure_ (i:=9) (N:=some 44) (v:=?_) (a':=?_) Y3.q10 rfl rfl (any_of HT_.out (by kernel_rfl)) (fun _ _ _ h=>h) (Or.inl ⟨by rfl,?_⟩) ?_ ?_
        rotate_left
        ·intro w'
         go_simp
         with_reducible rfl
        rotate_left
        ·simp only [Act.put,sa_,s0_,ss_,i64_w,i32_w]
         rfl
        refine pure_ (i:=11) (N:=some 46) (v:=?_) (a':=?_) #[true,true,true,true,true,true,true,true,true,true,false,true,false,false,false,false] rfl rfl (any_of HT_.out (by kernel_rfl)) (fun _ _ _ h=>h) (Or.inl ⟨by rfl,?_⟩) ?_ ?_
        rotate_left
        ·intro w'
         go_simp
         with_reducible rfl
        rotate_left
        ·simp only [Act.put,sa_,s0_,ss_,i64_w,i32_w]
         rfl
        refine take_ (i:=10) (N:=some 45) (v:=?_) (a':=?_) Y3.q11 rfl rfl (take_ofW HT_.out HW_.out (by kernel_rfl)) (fun _ _ _ h=>h) (Or.inl ⟨by rfl,?_⟩) hHeld ?_ ?_
        rotate_left
        ·rintro w' ⟨s0,s1,s2,s3,s4,s5⟩
         go_simp
         with_reducible rfl
        rotate_left
        ·simp only [Act.put,sa_,s0_,ss_,i64_w,i32_w]
         rfl
        refine one_ (i:=12) (N:=some 47) Y3.q12 rfl rfl (one_of HT_.out (by kernel_rfl)) (by decide) (fun K hK=>?_)
        refine goesC_ Tryd.func39 (by kernel_rfl) rfl #[.string (⟨#[66]⟩:ByteArray),.pointer (some ⟨gb190,0,none⟩)] (by rfl) rfl rfl (by rfl) (by first | rfl | (simp only [List.map_toArray,List.map_cons,List.map_nil,List.append_toArray,List.cons_append,List.nil_append];first | done | rfl)) ?_
        with_reducible refine (Y0.calls kj1 (⟨#[66]⟩:ByteArray) gb190 ((rd_T50 t186 (ji16)).f1) t193 _ ?side1 A29.out).mono ?_
        (case side1=>(with_reducible repeat (first | refine blk_drewN ?_ _ | refine blk_drew ?_ | refine blk_alloc ?_ _));exact BK190.out)
        rintro e w33 ⟨rfl,hb⟩
        refine ⟨_,rfl,?_⟩
        have n0_:=Aside0.mk (Kd.R_below (by (with_reducible repeat (first | apply Kd.R_alloc | apply Kd.R_drewN | apply Kd.R_drew));exact HO188.out) hb)
        have n1_:=Aside0.mk (blk_below (g:=gb182) (o:=.cells #[.int .i64 a0_0,.int .i64 a0_1,.int .i64 a0_2,.string a0_3,.string a0_4,.int .i64 a0_5] 23 (0,0)) (by (with_reducible repeat (first | refine blk_drewN ?_ _ | refine blk_drew ?_ | refine blk_alloc ?_ _));exact BK182.out) hb)
        have n2_:=Aside0.mk (blk_below (g:=gb190) (o:=.cells #[.string ((rd_T50 t186 (ji16)).f1)] 9 (0,0)) (by (with_reducible repeat (first | refine blk_drewN ?_ _ | refine blk_drew ?_ | refine blk_alloc ?_ _));exact BK190.out) hb)
        have n3_:=Aside0.mk (below_step (by repeat (first | (with_reducible first | exact HB.out | apply below_alloc | apply pw_below_drewN | apply below_drew1 | refine below_set ?_ GE182.out | refine below_set ?_ GE190.out) | exact HB.out)) hb)
        clear HO188
        clear BK182
        clear BK190
        clear HB
        have HO188:=n0_
        have BK182:=n1_
        have BK190:=n2_
        have HB:=n3_
        clear n0_ n1_ n2_ n3_
        (try clear hb)
        (try clear hb2)
        (try clear hk)
        (try clear hi)
        refine hK.out _ _ ⟨(blk_cell BK182.out 0).trans rfl,(blk_cell BK182.out 1).trans rfl,(blk_cell BK182.out 2).trans rfl,(blk_cell BK182.out 3).trans rfl,(blk_cell BK182.out 4).trans rfl,(blk_cell BK182.out 5).trans rfl⟩ (fun hHeld=>?_)
        clear hK K
        refine norm_ (a':=?_) ?_ ?_
        rotate_left
        ·show Act.put _ (some 47) _=_
         simp only [Act.put,sa_,s0_,ss_,i64_w,i32_w]
         rfl
        refine one_ (i:=13) (N:=some 48) Y3.q13 rfl rfl (one_of HT_.out (by kernel_rfl)) (by decide) (fun K hK=>?_)
        refine goesD_ Tryd.func41 (by kernel_rfl) rfl #[.int .i64 a0_2,.bool t193] (by rfl) rfl rfl (by rfl) (by (try simp only [List.map_toArray,List.map_cons,List.map_nil]);first | done | rfl | (simp only [List.length_drop,List.length_take];rfl)) ?_
        with_reducible refine (Y19.calls a0_2 t193 t194 _ A30.out).mono ?_
        rintro e w' ⟨rfl,⟨nd,rfl⟩⟩
        refine ⟨_,rfl,?_⟩
        refine hK.out _ _ ⟨(blk_cell BK182.out 0).trans rfl,(blk_cell BK182.out 1).trans rfl,(blk_cell BK182.out 2).trans rfl,(blk_cell BK182.out 3).trans rfl,(blk_cell BK182.out 4).trans rfl,(blk_cell BK182.out 5).trans rfl⟩ (fun hHeld=>?_)
        clear hK K
        refine norm_ (a':=?_) ?_ ?_
        rotate_left
        ·show Act.put _ (some 48) _=_
         simp only [Act.put,sa_,s0_,ss_,i64_w,i32_w]
         rfl
        refine pure_ (i:=14) (N:=some 49) (v:=?_) (a':=?_) Y3.q14 rfl rfl (any_of HT_.out (by kernel_rfl)) (fun _ _ _ h=>h) (Or.inl ⟨by rfl,?_⟩) ?_ ?_
        rotate_left
        ·intro w'
         go_simp
         with_reducible rfl
        rotate_left
        ·simp only [Act.put,sa_,s0_,ss_,i64_w,i32_w]
         rfl
        refine pure_ (i:=15) (N:=some 50) (v:=?_) (a':=?_) Y3.q15 rfl rfl (any_of HT_.out (by kernel_rfl)) (fun _ _ _ h=>h) (Or.inl ⟨by rfl,?_⟩) ?_ ?_
        rotate_left
        ·intro w'
         go_simp
         with_reducible rfl
        rotate_left
        ·simp only [Act.put,sa_,s0_,ss_,i64_w,i32_w]
         rfl
        refine done_ (done_of HT_.out (by kernel_rfl)) ?_
        try go_wp2
        go_meet
        case rel=>exact ⟨_,(!t194),(by first | rfl | (simp;done) | (simp [*];done) | (simp [bne];done)),H',⟨by have:=HJ1.out;first | omega | exact Nat.le_refl _⟩,⟨by (with_reducible repeat (first | refine blk_drewN ?_ _ | refine blk_drew ?_ | refine blk_alloc ?_ _));exact BK182.out⟩,⟨by (with_reducible repeat (first | refine blk_drewN ?_ _ | refine blk_drew ?_ | refine blk_alloc ?_ _));exact BK190.out⟩,⟨by repeat (first | (with_reducible first | exact HB.out | apply below_alloc | apply pw_below_drewN | apply below_drew1 | refine below_set ?_ GE182.out | refine below_set ?_ GE190.out) | exact HB.out)⟩⟩
       ·replace c28:=Bool.eq_false_iff.mpr c28
        subst c28
        have H1:(Y3.j1 kj1 true a0_0 a0_1 a0_2 a0_3 a0_4 a0_5 ((rd_T50 t186 (ji16)).f1))=some r:=by rw [if_neg (show ¬ (false=true) by decide)] at H;exact H
        clear H
        have H:=H1
        clear H1
        have H':=Aside0.mk H
        clear H
        try go_wp2
        have n0_:=Aside0.mk (Kd.R_drew HO188.out)
        have n1_:=Aside0.mk (blk_drew BK182.out)
        have n2_:=Aside0.mk (blk_drew BK190.out)
        have n3_:=Aside0.mk (below_drew1 HB.out)
        clear HO188
        clear BK182
        clear BK190
        clear HB
        have HO188:=n0_
        have BK182:=n1_
        have BK190:=n2_
        have HB:=n3_
        clear n0_ n1_ n2_ n3_
        refine start_ (n:=16) (S:=fun w'=>w'.cell? ⟨gb182,0,none⟩=some (.int .i64 a0_0)∧w'.cell? ⟨gb182,1,none⟩=some (.int .i64 a0_1)∧w'.cell? ⟨gb182,2,none⟩=some (.int .i64 a0_2)∧w'.cell? ⟨gb182,3,none⟩=some (.string a0_3)∧w'.cell? ⟨gb182,4,none⟩=some (.string a0_4)∧w'.cell? ⟨gb182,5,none⟩=some (.int .i64 a0_5)) (ds:=[]) Y3.q0 (by kernel_rfl) rfl rfl ⟨(blk_cell BK182.out 0).trans rfl,(blk_cell BK182.out 1).trans rfl,(blk_cell BK182.out 2).trans rfl,(blk_cell BK182.out 3).trans rfl,(blk_cell BK182.out 4).trans rfl,(blk_cell BK182.out 5).trans rfl⟩ (fun hHeld=>?_);refine with_tabW Y3.tab6 Y3.bits6 (fun HT_ HW_=>?_)
        generalize w24.drew=w34 at HO188 BK182 BK190 HB hHeld ⊢
        refine pure_ (i:=0) (N:=some 35) (v:=?_) (a':=?_) Y3.q1 rfl rfl (any_of HT_.out (by kernel_rfl)) (fun _ _ _ h=>h) (Or.inl ⟨by rfl,?_⟩) ?_ ?_
        rotate_left
        ·intro w'
         go_simp
         with_reducible rfl
        rotate_left
        ·simp only [Act.put,sa_,s0_,ss_,i64_w,i32_w]
         rfl
        refine pure_ (i:=1) (N:=some 36) (v:=?_) (a':=?_) Y3.q2 rfl rfl (any_of HT_.out (by kernel_rfl)) (fun _ _ _ h=>h) (Or.inl ⟨by rfl,?_⟩) ?_ ?_
        rotate_left
        ·intro w'
         go_simp
         with_reducible rfl
        rotate_left
        ·simp only [Act.put,sa_,s0_,ss_,i64_w,i32_w]
         rfl
        refine pure_ (i:=3) (N:=some 38) (v:=?_) (a':=?_) Y3.q3 rfl rfl (any_of HT_.out (by kernel_rfl)) (fun _ _ _ h=>h) (Or.inl ⟨by rfl,?_⟩) ?_ ?_
        rotate_left
        ·intro w'
         go_simp
         with_reducible rfl
        rotate_left
        ·simp only [Act.put,sa_,s0_,ss_,i64_w,i32_w]
         rfl
        refine take_ (i:=2) (N:=some 37) (v:=?_) (a':=?_) Y3.q4 rfl rfl (take_ofW HT_.out HW_.out (by kernel_rfl)) (fun _ _ _ h=>h) (Or.inl ⟨by rfl,?_⟩) hHeld ?_ ?_
        rotate_left
        ·rintro w' ⟨s0,s1,s2,s3,s4,s5⟩
         go_simp
         with_reducible rfl
        rotate_left
        ·simp only [Act.put,sa_,s0_,ss_,i64_w,i32_w]
         rfl
        refine one_ (i:=4) (N:=some 39) Y3.q5 rfl rfl (one_of HT_.out (by kernel_rfl)) (by decide) (fun K hK=>?_)
        refine goesC_ Tryd.func39 (by kernel_rfl) rfl #[.string (⟨#[65]⟩:ByteArray),.pointer (some ⟨gb190,0,none⟩)] (by rfl) rfl rfl (by rfl) (by first | rfl | (simp only [List.map_toArray,List.map_cons,List.map_nil,List.append_toArray,List.cons_append,List.nil_append];first | done | rfl)) ?_
        with_reducible refine (Y0.calls kj1 (⟨#[65]⟩:ByteArray) gb190 ((rd_T50 t186 (ji16)).f1) t191 _ ?side1 A26.out).mono ?_
        (case side1=>(with_reducible repeat (first | refine blk_drewN ?_ _ | refine blk_drew ?_ | refine blk_alloc ?_ _));exact BK190.out)
        rintro e w35 ⟨rfl,hb⟩
        refine ⟨_,rfl,?_⟩
        have n0_:=Aside0.mk (Kd.R_below (by (with_reducible repeat (first | apply Kd.R_alloc | apply Kd.R_drewN | apply Kd.R_drew));exact HO188.out) hb)
        have n1_:=Aside0.mk (blk_below (g:=gb182) (o:=.cells #[.int .i64 a0_0,.int .i64 a0_1,.int .i64 a0_2,.string a0_3,.string a0_4,.int .i64 a0_5] 23 (0,0)) (by (with_reducible repeat (first | refine blk_drewN ?_ _ | refine blk_drew ?_ | refine blk_alloc ?_ _));exact BK182.out) hb)
        have n2_:=Aside0.mk (blk_below (g:=gb190) (o:=.cells #[.string ((rd_T50 t186 (ji16)).f1)] 9 (0,0)) (by (with_reducible repeat (first | refine blk_drewN ?_ _ | refine blk_drew ?_ | refine blk_alloc ?_ _));exact BK190.out) hb)
        have n3_:=Aside0.mk (below_step (by repeat (first | (with_reducible first | exact HB.out | apply below_alloc | apply pw_below_drewN | apply below_drew1 | refine below_set ?_ GE182.out | refine below_set ?_ GE190.out) | exact HB.out)) hb)
        clear HO188
        clear BK182
        clear BK190
        clear HB
        have HO188:=n0_
        have BK182:=n1_
        have BK190:=n2_
        have HB:=n3_
        clear n0_ n1_ n2_ n3_
        (try clear hb)
        (try clear hb2)
        (try clear hk)
        (try clear hi)
        refine hK.out _ _ ⟨(blk_cell BK182.out 0).trans rfl,(blk_cell BK182.out 1).trans rfl,(blk_cell BK182.out 2).trans rfl,(blk_cell BK182.out 3).trans rfl,(blk_cell BK182.out 4).trans rfl,(blk_cell BK182.out 5).trans rfl⟩ (fun hHeld=>?_)
        clear hK K
        refine norm_ (a':=?_) ?_ ?_
        rotate_left
        ·show Act.put _ (some 39) _=_
         simp only [Act.put,sa_,s0_,ss_,i64_w,i32_w]
         rfl
        refine one_ (i:=5) (N:=some 40) Y3.q6 rfl rfl (one_of HT_.out (by kernel_rfl)) (by decide) (fun K hK=>?_)
        refine goesD_ Tryd.func41 (by kernel_rfl) rfl #[.int .i64 a0_1,.bool t191] (by rfl) rfl rfl (by rfl) (by (try simp only [List.map_toArray,List.map_cons,List.map_nil]);first | done | rfl | (simp only [List.length_drop,List.length_take];rfl)) ?_
        with_reducible refine (Y19.calls a0_1 t191 false _ A27.out).mono ?_
        rintro e w' ⟨rfl,⟨nd,rfl⟩⟩
        refine ⟨_,rfl,?_⟩
        refine hK.out _ _ ⟨(blk_cell BK182.out 0).trans rfl,(blk_cell BK182.out 1).trans rfl,(blk_cell BK182.out 2).trans rfl,(blk_cell BK182.out 3).trans rfl,(blk_cell BK182.out 4).trans rfl,(blk_cell BK182.out 5).trans rfl⟩ (fun hHeld=>?_)
        clear hK K
        refine norm_ (a':=?_) ?_ ?_
        rotate_left
        ·show Act.put _ (some 40) _=_
         simp only [Act.put,sa_,s0_,ss_,i64_w,i32_w]
         rfl
        refine pure_ (i:=6) (N:=some 41) (v:=?_) (a':=?_) Y3.q7 rfl rfl (any_of HT_.out (by kernel_rfl)) (fun _ _ _ h=>h) (Or.inl ⟨by rfl,?_⟩) ?_ ?_
        rotate_left
        ·intro w'
         go_simp
         with_reducible rfl
        rotate_left
        ·simp only [Act.put,sa_,s0_,ss_,i64_w,i32_w]
         rfl
        refine pure_ (i:=7) (N:=some 42) (v:=?_) (a':=?_) Y3.q8 rfl rfl (any_of HT_.out (by kernel_rfl)) (fun _ _ _ h=>h) (Or.inl ⟨by rfl,?_⟩) ?_ ?_
        rotate_left
        ·intro w'
         go_simp
         with_reducible rfl
        rotate_left
        ·simp only [Act.put,sa_,s0_,ss_,i64_w,i32_w]
         rfl
        refine pure_ (i:=8) (N:=some 43) (v:=undef) (a':=?_) Y3.q9 rfl rfl (any_of HT_.out (by kernel_rfl)) (fun _ _ _ h=>h) (Or.inr ⟨by rfl,rfl⟩) ?_ ?_
        rotate_left
        ·simp only [Act.put,sa_,s0_,ss_,i64_w,i32_w]
         rfl
        refine pure_ (i:=9) (N:=some 44) (v:=undef) (a':=?_) Y3.q10 rfl rfl (any_of HT_.out (by kernel_rfl)) (fun _ _ _ h=>h) (Or.inr ⟨by rfl,rfl⟩) ?_ ?_
        rotate_left
        ·simp only [Act.put,sa_,s0_,ss_,i64_w,i32_w]
         rfl
        refine pure_ (i:=10) (N:=some 45) (v:=undef) (a':=?_) #[true,true,true,true,true,true,true,true,true,true,true,false,false,false,false,false] rfl rfl (any_of HT_.out (by kernel_rfl)) (fun _ _ _ h=>h) (Or.inr ⟨by rfl,rfl⟩) ?_ ?_
        rotate_left
        ·simp only [Act.put,sa_,s0_,ss_,i64_w,i32_w]
         rfl
        refine pure_ (i:=11) (N:=some 46) (v:=undef) (a':=?_) Y3.q11 rfl rfl (any_of HT_.out (by kernel_rfl)) (fun _ _ _ h=>h) (Or.inr ⟨by rfl,rfl⟩) ?_ ?_
        rotate_left
        ·simp only [Act.put,sa_,s0_,ss_,i64_w,i32_w]
         rfl
        refine pure_ (i:=12) (N:=some 47) (v:=undef) (a':=?_) Y3.q12 rfl rfl (any_of HT_.out (by kernel_rfl)) (fun _ _ _ h=>h) (Or.inr ⟨by rfl,rfl⟩) ?_ ?_
        rotate_left
        ·simp only [Act.put,sa_,s0_,ss_,i64_w,i32_w]
         rfl
        refine pure_ (i:=13) (N:=some 48) (v:=undef) (a':=?_) Y3.q13 rfl rfl (any_of HT_.out (by kernel_rfl)) (fun _ _ _ h=>h) (Or.inr ⟨by rfl,rfl⟩) ?_ ?_
        rotate_left
        ·simp only [Act.put,sa_,s0_,ss_,i64_w,i32_w]
         rfl
        refine pure_ (i:=14) (N:=some 49) (v:=undef) (a':=?_) Y3.q14 rfl rfl (any_of HT_.out (by kernel_rfl)) (fun _ _ _ h=>h) (Or.inr ⟨by rfl,rfl⟩) ?_ ?_
        rotate_left
        ·simp only [Act.put,sa_,s0_,ss_,i64_w,i32_w]
         rfl
        refine pure_ (i:=15) (N:=some 50) (v:=?_) (a':=?_) Y3.q15 rfl rfl (any_of HT_.out (by kernel_rfl)) (fun _ _ _ h=>h) (Or.inl ⟨by rfl,?_⟩) ?_ ?_
        rotate_left
        ·intro w'
         go_simp
         with_reducible rfl
        rotate_left
        ·simp only [Act.put,sa_,s0_,ss_,i64_w,i32_w]
         rfl
        refine done_ (done_of HT_.out (by kernel_rfl)) ?_
        try go_wp2
        go_meet
        case rel=>exact ⟨_,(true),(by first | rfl | (simp;done) | (simp [*];done) | (simp [bne];done)),H',⟨by have:=HJ1.out;first | omega | exact Nat.le_refl _⟩,⟨by (with_reducible repeat (first | refine blk_drewN ?_ _ | refine blk_drew ?_ | refine blk_alloc ?_ _));exact BK182.out⟩,⟨by (with_reducible repeat (first | refine blk_drewN ?_ _ | refine blk_drew ?_ | refine blk_alloc ?_ _));exact BK190.out⟩,⟨by repeat (first | (with_reducible first | exact HB.out | apply below_alloc | apply pw_below_drewN | apply below_drew1 | refine below_set ?_ GE182.out | refine below_set ?_ GE190.out) | exact HB.out)⟩⟩
      case rest=>as_aux_lemma =>
       clear HC19
       try clear c1
       try clear p1
       try clear q1
       try clear hx1
       try clear c2
       try clear p2
       try clear c3
       try clear c4
       try clear c5
       try clear c7
       try clear p18
       try clear q18
       try clear hx18
       try clear c23
       try clear c28
       try clear hx189_0
       try clear hx189_1
       try clear p189
       try clear q189
       obtain ⟨kq,x50_18,rfl,HA,HJ18,BK182,BK190,HB⟩:=hcut
       cases kq with
       | zero=>exact absurd HA.out (by simp [Y3.j1])
       | succ kj18 =>
        have H:=HA.out
        clear HA
        simp only [Y3.j1] at H
        by_cases c36:x50_18=true
        ·subst c36
         have H1:(some false)=some r:=by rw [if_pos rfl] at H;exact H
         clear H
         have H:=H1
         clear H1
         obtain rfl:=Option.some.inj H
         go_wp2
         go_ret
         exact ⟨by first | rfl | (simp [errW_none,errW_some] <;> rfl) | (simp only [← hji16];first | rfl | (simp [errW_none,errW_some] <;> rfl)) | (simp [*,errW_none,errW_some] <;> rfl),by repeat (first | (with_reducible first | exact HB.out | apply below_alloc | apply pw_below_drewN | apply below_drew1 | refine below_set ?_ GE182.out | refine below_set ?_ GE190.out) | exact HB.out)⟩
        ·replace c36:=Bool.eq_false_iff.mpr c36
         subst c36
         have H1:((Y0.f kj18 (⟨#[75]⟩:ByteArray) ((rd_T50 t186 (ji16)).f1)).bind fun t195=>(if t195=true then ((Y6.f kj18 a0_3).bind fun t196=>(if t196=true then ((Y0.f kj18 (⟨#[68]⟩:ByteArray) ((rd_T50 t186 (ji16)).f1)).bind fun t197=>(if t197=true then ((Y6.f kj18 a0_4).bind fun t198=>(if t198=true then (if (a0_4.size:Int)≤16 then (some true) else ((Y0.f kj18 (⟨#[68]⟩:ByteArray) ((rd_T50 t186 (ji16)).f1)).bind fun t199=>(if t199=true then (some false) else (some (a0_4.toList == ([]:List UInt8)))))) else ((Y0.f kj18 (⟨#[68]⟩:ByteArray) ((rd_T50 t186 (ji16)).f1)).bind fun t200=>(if t200=true then (some false) else (some (a0_4.toList == ([]:List UInt8))))))) else ((Y0.f kj18 (⟨#[68]⟩:ByteArray) ((rd_T50 t186 (ji16)).f1)).bind fun t201=>(if t201=true then (some false) else (some (a0_4.toList == ([]:List UInt8))))))) else ((Y0.f kj18 (⟨#[75]⟩:ByteArray) ((rd_T50 t186 (ji16)).f1)).bind fun t202=>(if t202=true then (some false) else (if a0_3.toList=([]:List UInt8) then ((Y0.f kj18 (⟨#[68]⟩:ByteArray) ((rd_T50 t186 (ji16)).f1)).bind fun t203=>(if t203=true then ((Y6.f kj18 a0_4).bind fun t204=>(if t204=true then (if (a0_4.size:Int)≤16 then (some true) else ((Y0.f kj18 (⟨#[68]⟩:ByteArray) ((rd_T50 t186 (ji16)).f1)).bind fun t205=>(if t205=true then (some false) else (some (a0_4.toList == ([]:List UInt8)))))) else ((Y0.f kj18 (⟨#[68]⟩:ByteArray) ((rd_T50 t186 (ji16)).f1)).bind fun t206=>(if t206=true then (some false) else (some (a0_4.toList == ([]:List UInt8))))))) else ((Y0.f kj18 (⟨#[68]⟩:ByteArray) ((rd_T50 t186 (ji16)).f1)).bind fun t207=>(if t207=true then (some false) else (some (a0_4.toList == ([]:List UInt8))))))) else (some false)))))) else ((Y0.f kj18 (⟨#[75]⟩:ByteArray) ((rd_T50 t186 (ji16)).f1)).bind fun t208=>(if t208=true then (some false) else (if a0_3.toList=([]:List UInt8) then ((Y0.f kj18 (⟨#[68]⟩:ByteArray) ((rd_T50 t186 (ji16)).f1)).bind fun t209=>(if t209=true then ((Y6.f kj18 a0_4).bind fun t210=>(if t210=true then (if (a0_4.size:Int)≤16 then (some true) else ((Y0.f kj18 (⟨#[68]⟩:ByteArray) ((rd_T50 t186 (ji16)).f1)).bind fun t211=>(if t211=true then (some false) else (some (a0_4.toList == ([]:List UInt8)))))) else ((Y0.f kj18 (⟨#[68]⟩:ByteArray) ((rd_T50 t186 (ji16)).f1)).bind fun t212=>(if t212=true then (some false) else (some (a0_4.toList == ([]:List UInt8))))))) else ((Y0.f kj18 (⟨#[68]⟩:ByteArray) ((rd_T50 t186 (ji16)).f1)).bind fun t213=>(if t213=true then (some false) else (some (a0_4.toList == ([]:List UInt8))))))) else (some false))))))=some r:=by rw [if_neg (show ¬ (false=true) by decide)] at H;exact H
         clear H
         have H:=H1
         clear H1
         replace H:=Option.bind_eq_some_iff.mp H
         obtain ⟨t195,A370,H⟩:=H
         replace H:(if t195=true then ((Y6.f kj18 a0_3).bind fun t196=>(if t196=true then ((Y0.f kj18 (⟨#[68]⟩:ByteArray) ((rd_T50 t186 (ji16)).f1)).bind fun t197=>(if t197=true then ((Y6.f kj18 a0_4).bind fun t198=>(if t198=true then (if (a0_4.size:Int)≤16 then (some true) else ((Y0.f kj18 (⟨#[68]⟩:ByteArray) ((rd_T50 t186 (ji16)).f1)).bind fun t199=>(if t199=true then (some false) else (some (a0_4.toList == ([]:List UInt8)))))) else ((Y0.f kj18 (⟨#[68]⟩:ByteArray) ((rd_T50 t186 (ji16)).f1)).bind fun t200=>(if t200=true then (some false) else (some (a0_4.toList == ([]:List UInt8))))))) else ((Y0.f kj18 (⟨#[68]⟩:ByteArray) ((rd_T50 t186 (ji16)).f1)).bind fun t201=>(if t201=true then (some false) else (some (a0_4.toList == ([]:List UInt8))))))) else ((Y0.f kj18 (⟨#[75]⟩:ByteArray) ((rd_T50 t186 (ji16)).f1)).bind fun t202=>(if t202=true then (some false) else (if a0_3.toList=([]:List UInt8) then ((Y0.f kj18 (⟨#[68]⟩:ByteArray) ((rd_T50 t186 (ji16)).f1)).bind fun t203=>(if t203=true then ((Y6.f kj18 a0_4).bind fun t204=>(if t204=true then (if (a0_4.size:Int)≤16 then (some true) else ((Y0.f kj18 (⟨#[68]⟩:ByteArray) ((rd_T50 t186 (ji16)).f1)).bind fun t205=>(if t205=true then (some false) else (some (a0_4.toList == ([]:List UInt8)))))) else ((Y0.f kj18 (⟨#[68]⟩:ByteArray) ((rd_T50 t186 (ji16)).f1)).bind fun t206=>(if t206=true then (some false) else (some (a0_4.toList == ([]:List UInt8))))))) else ((Y0.f kj18 (⟨#[68]⟩:ByteArray) ((rd_T50 t186 (ji16)).f1)).bind fun t207=>(if t207=true then (some false) else (some (a0_4.toList == ([]:List UInt8))))))) else (some false)))))) else ((Y0.f kj18 (⟨#[75]⟩:ByteArray) ((rd_T50 t186 (ji16)).f1)).bind fun t208=>(if t208=true then (some false) else (if a0_3.toList=([]:List UInt8) then ((Y0.f kj18 (⟨#[68]⟩:ByteArray) ((rd_T50 t186 (ji16)).f1)).bind fun t209=>(if t209=true then ((Y6.f kj18 a0_4).bind fun t210=>(if t210=true then (if (a0_4.size:Int)≤16 then (some true) else ((Y0.f kj18 (⟨#[68]⟩:ByteArray) ((rd_T50 t186 (ji16)).f1)).bind fun t211=>(if t211=true then (some false) else (some (a0_4.toList == ([]:List UInt8)))))) else ((Y0.f kj18 (⟨#[68]⟩:ByteArray) ((rd_T50 t186 (ji16)).f1)).bind fun t212=>(if t212=true then (some false) else (some (a0_4.toList == ([]:List UInt8))))))) else ((Y0.f kj18 (⟨#[68]⟩:ByteArray) ((rd_T50 t186 (ji16)).f1)).bind fun t213=>(if t213=true then (some false) else (some (a0_4.toList == ([]:List UInt8))))))) else (some false)))))=some r:=H
         have A37:=Aside0.mk A370
         clear A370
         by_cases c38:t195=true
         ·subst c38
          have H1:((Y6.f kj18 a0_3).bind fun t196=>(if t196=true then ((Y0.f kj18 (⟨#[68]⟩:ByteArray) ((rd_T50 t186 (ji16)).f1)).bind fun t197=>(if t197=true then ((Y6.f kj18 a0_4).bind fun t198=>(if t198=true then (if (a0_4.size:Int)≤16 then (some true) else ((Y0.f kj18 (⟨#[68]⟩:ByteArray) ((rd_T50 t186 (ji16)).f1)).bind fun t199=>(if t199=true then (some false) else (some (a0_4.toList == ([]:List UInt8)))))) else ((Y0.f kj18 (⟨#[68]⟩:ByteArray) ((rd_T50 t186 (ji16)).f1)).bind fun t200=>(if t200=true then (some false) else (some (a0_4.toList == ([]:List UInt8))))))) else ((Y0.f kj18 (⟨#[68]⟩:ByteArray) ((rd_T50 t186 (ji16)).f1)).bind fun t201=>(if t201=true then (some false) else (some (a0_4.toList == ([]:List UInt8))))))) else ((Y0.f kj18 (⟨#[75]⟩:ByteArray) ((rd_T50 t186 (ji16)).f1)).bind fun t202=>(if t202=true then (some false) else (if a0_3.toList=([]:List UInt8) then ((Y0.f kj18 (⟨#[68]⟩:ByteArray) ((rd_T50 t186 (ji16)).f1)).bind fun t203=>(if t203=true then ((Y6.f kj18 a0_4).bind fun t204=>(if t204=true then (if (a0_4.size:Int)≤16 then (some true) else ((Y0.f kj18 (⟨#[68]⟩:ByteArray) ((rd_T50 t186 (ji16)).f1)).bind fun t205=>(if t205=true then (some false) else (some (a0_4.toList == ([]:List UInt8)))))) else ((Y0.f kj18 (⟨#[68]⟩:ByteArray) ((rd_T50 t186 (ji16)).f1)).bind fun t206=>(if t206=true then (some false) else (some (a0_4.toList == ([]:List UInt8))))))) else ((Y0.f kj18 (⟨#[68]⟩:ByteArray) ((rd_T50 t186 (ji16)).f1)).bind fun t207=>(if t207=true then (some false) else (some (a0_4.toList == ([]:List UInt8))))))) else (some false))))))=some r:=by rw [if_pos rfl] at H;exact H
          clear H
          have H:=H1
          clear H1
          replace H:=Option.bind_eq_some_iff.mp H
          obtain ⟨t196,A390,H⟩:=H
          replace H:(if t196=true then ((Y0.f kj18 (⟨#[68]⟩:ByteArray) ((rd_T50 t186 (ji16)).f1)).bind fun t197=>(if t197=true then ((Y6.f kj18 a0_4).bind fun t198=>(if t198=true then (if (a0_4.size:Int)≤16 then (some true) else ((Y0.f kj18 (⟨#[68]⟩:ByteArray) ((rd_T50 t186 (ji16)).f1)).bind fun t199=>(if t199=true then (some false) else (some (a0_4.toList == ([]:List UInt8)))))) else ((Y0.f kj18 (⟨#[68]⟩:ByteArray) ((rd_T50 t186 (ji16)).f1)).bind fun t200=>(if t200=true then (some false) else (some (a0_4.toList == ([]:List UInt8))))))) else ((Y0.f kj18 (⟨#[68]⟩:ByteArray) ((rd_T50 t186 (ji16)).f1)).bind fun t201=>(if t201=true then (some false) else (some (a0_4.toList == ([]:List UInt8))))))) else ((Y0.f kj18 (⟨#[75]⟩:ByteArray) ((rd_T50 t186 (ji16)).f1)).bind fun t202=>(if t202=true then (some false) else (if a0_3.toList=([]:List UInt8) then ((Y0.f kj18 (⟨#[68]⟩:ByteArray) ((rd_T50 t186 (ji16)).f1)).bind fun t203=>(if t203=true then ((Y6.f kj18 a0_4).bind fun t204=>(if t204=true then (if (a0_4.size:Int)≤16 then (some true) else ((Y0.f kj18 (⟨#[68]⟩:ByteArray) ((rd_T50 t186 (ji16)).f1)).bind fun t205=>(if t205=true then (some false) else (some (a0_4.toList == ([]:List UInt8)))))) else ((Y0.f kj18 (⟨#[68]⟩:ByteArray) ((rd_T50 t186 (ji16)).f1)).bind fun t206=>(if t206=true then (some false) else (some (a0_4.toList == ([]:List UInt8))))))) else ((Y0.f kj18 (⟨#[68]⟩:ByteArray) ((rd_T50 t186 (ji16)).f1)).bind fun t207=>(if t207=true then (some false) else (some (a0_4.toList == ([]:List UInt8))))))) else (some false)))))=some r:=H
          have A39:=Aside0.mk A390
          clear A390
          by_cases c40:t196=true
          ·subst c40
           have H1:((Y0.f kj18 (⟨#[68]⟩:ByteArray) ((rd_T50 t186 (ji16)).f1)).bind fun t197=>(if t197=true then ((Y6.f kj18 a0_4).bind fun t198=>(if t198=true then (if (a0_4.size:Int)≤16 then (some true) else ((Y0.f kj18 (⟨#[68]⟩:ByteArray) ((rd_T50 t186 (ji16)).f1)).bind fun t199=>(if t199=true then (some false) else (some (a0_4.toList == ([]:List UInt8)))))) else ((Y0.f kj18 (⟨#[68]⟩:ByteArray) ((rd_T50 t186 (ji16)).f1)).bind fun t200=>(if t200=true then (some false) else (some (a0_4.toList == ([]:List UInt8))))))) else ((Y0.f kj18 (⟨#[68]⟩:ByteArray) ((rd_T50 t186 (ji16)).f1)).bind fun t201=>(if t201=true then (some false) else (some (a0_4.toList == ([]:List UInt8)))))))=some r:=by rw [if_pos rfl] at H;exact H
           clear H
           have H:=H1
           clear H1
           replace H:=Option.bind_eq_some_iff.mp H
           obtain ⟨t197,A410,H⟩:=H
           replace H:(if t197=true then ((Y6.f kj18 a0_4).bind fun t198=>(if t198=true then (if (a0_4.size:Int)≤16 then (some true) else ((Y0.f kj18 (⟨#[68]⟩:ByteArray) ((rd_T50 t186 (ji16)).f1)).bind fun t199=>(if t199=true then (some false) else (some (a0_4.toList == ([]:List UInt8)))))) else ((Y0.f kj18 (⟨#[68]⟩:ByteArray) ((rd_T50 t186 (ji16)).f1)).bind fun t200=>(if t200=true then (some false) else (some (a0_4.toList == ([]:List UInt8))))))) else ((Y0.f kj18 (⟨#[68]⟩:ByteArray) ((rd_T50 t186 (ji16)).f1)).bind fun t201=>(if t201=true then (some false) else (some (a0_4.toList == ([]:List UInt8))))))=some r:=H
           have A41:=Aside0.mk A410
           clear A410
           by_cases c42:t197=true
           ·subst c42
            have H1:((Y6.f kj18 a0_4).bind fun t198=>(if t198=true then (if (a0_4.size:Int)≤16 then (some true) else ((Y0.f kj18 (⟨#[68]⟩:ByteArray) ((rd_T50 t186 (ji16)).f1)).bind fun t199=>(if t199=true then (some false) else (some (a0_4.toList == ([]:List UInt8)))))) else ((Y0.f kj18 (⟨#[68]⟩:ByteArray) ((rd_T50 t186 (ji16)).f1)).bind fun t200=>(if t200=true then (some false) else (some (a0_4.toList == ([]:List UInt8)))))))=some r:=by rw [if_pos rfl] at H;exact H
            clear H
            have H:=H1
            clear H1
            replace H:=Option.bind_eq_some_iff.mp H
            obtain ⟨t198,A430,H⟩:=H
            replace H:(if t198=true then (if (a0_4.size:Int)≤16 then (some true) else ((Y0.f kj18 (⟨#[68]⟩:ByteArray) ((rd_T50 t186 (ji16)).f1)).bind fun t199=>(if t199=true then (some false) else (some (a0_4.toList == ([]:List UInt8)))))) else ((Y0.f kj18 (⟨#[68]⟩:ByteArray) ((rd_T50 t186 (ji16)).f1)).bind fun t200=>(if t200=true then (some false) else (some (a0_4.toList == ([]:List UInt8))))))=some r:=H
            have A43:=Aside0.mk A430
            clear A430
            by_cases c44:t198=true
            ·subst c44
             have H1:(if (a0_4.size:Int)≤16 then (some true) else ((Y0.f kj18 (⟨#[68]⟩:ByteArray) ((rd_T50 t186 (ji16)).f1)).bind fun t199=>(if t199=true then (some false) else (some (a0_4.toList == ([]:List UInt8))))))=some r:=by rw [if_pos rfl] at H;exact H
             clear H
             have H:=H1
             clear H1
             by_cases c45:(a0_4.size:Int)≤16
             ·rw [if_pos c45] at H
              have c45b0:decide ((a0_4.size:Int)≤16)=true:=decide_eq_true c45
              have c45b1:decide (a0_4.size≤16)=true:=decide_eq_true (by omega)
              clear c45
              obtain rfl:=Option.some.inj H
              go_wp2_with (first | (go_at_call 39;(with_reducible refine (Y0.calls kj18 (⟨#[75]⟩:ByteArray) gb190 ((rd_T50 t186 (ji16)).f1) true _ ?side1 A37.out).mono ?_);(case side1=>(with_reducible repeat (first | refine blk_drewN ?_ _ | refine blk_drew ?_ | refine blk_alloc ?_ _));exact BK190.out);rintro e w46 ⟨rfl,hb⟩;have n0_:=Aside0.mk (blk_below (g:=gb182) (o:=.cells #[.int .i64 a0_0,.int .i64 a0_1,.int .i64 a0_2,.string a0_3,.string a0_4,.int .i64 a0_5] 23 (0,0)) (by (with_reducible repeat (first | refine blk_drewN ?_ _ | refine blk_drew ?_ | refine blk_alloc ?_ _));exact BK182.out) hb);have n1_:=Aside0.mk (blk_below (g:=gb190) (o:=.cells #[.string ((rd_T50 t186 (ji16)).f1)] 9 (0,0)) (by (with_reducible repeat (first | refine blk_drewN ?_ _ | refine blk_drew ?_ | refine blk_alloc ?_ _));exact BK190.out) hb);have n2_:=Aside0.mk (below_step (by repeat (first | (with_reducible first | exact HB.out | apply below_alloc | apply pw_below_drewN | apply below_drew1 | refine below_set ?_ GE182.out | refine below_set ?_ GE190.out) | exact HB.out)) hb);clear BK182;clear BK190;clear HB;have BK182:=n0_;have BK190:=n1_;have HB:=n2_;clear n0_ n1_ n2_;(try clear hb);(try clear hb2);(try clear hk);(try clear hi);have hnb47:=NB182_190.out;have hnc47:=NB190_182.out;have hcz48_0:w46.cell? ⟨gb182,0,none⟩=some (.int .i64 a0_0):=(blk_cell BK182.out 0).trans rfl;have hcz48_1:w46.cell? ⟨gb182,1,none⟩=some (.int .i64 a0_1):=(blk_cell BK182.out 1).trans rfl;have hcz48_2:w46.cell? ⟨gb182,2,none⟩=some (.int .i64 a0_2):=(blk_cell BK182.out 2).trans rfl;have hcz48_3:w46.cell? ⟨gb182,3,none⟩=some (.string a0_3):=(blk_cell BK182.out 3).trans rfl;have hcz48_4:w46.cell? ⟨gb182,4,none⟩=some (.string a0_4):=(blk_cell BK182.out 4).trans rfl;have hcz48_5:w46.cell? ⟨gb182,5,none⟩=some (.int .i64 a0_5):=(blk_cell BK182.out 5).trans rfl;have hfz48_0:=blk_frozen BK182.out 0;have hfz48_1:=blk_frozen BK182.out 1;have hfz48_2:=blk_frozen BK182.out 2;have hfz48_3:=blk_frozen BK182.out 3;have hfz48_4:=blk_frozen BK182.out 4;have hfz48_5:=blk_frozen BK182.out 5) | (go_at_call 42;(with_reducible refine (Y6.calls kj18 a0_3 true _ A39.out).mono ?_);rintro e w' ⟨rfl,⟨nd,rfl⟩⟩) | (go_at_call 39;(with_reducible refine (Y0.calls kj18 (⟨#[68]⟩:ByteArray) gb190 ((rd_T50 t186 (ji16)).f1) true _ ?side1 A41.out).mono ?_);(case side1=>(with_reducible repeat (first | refine blk_drewN ?_ _ | refine blk_drew ?_ | refine blk_alloc ?_ _));exact BK190.out);rintro e w49 ⟨rfl,hb⟩;have n0_:=Aside0.mk (blk_below (g:=gb182) (o:=.cells #[.int .i64 a0_0,.int .i64 a0_1,.int .i64 a0_2,.string a0_3,.string a0_4,.int .i64 a0_5] 23 (0,0)) (by (with_reducible repeat (first | refine blk_drewN ?_ _ | refine blk_drew ?_ | refine blk_alloc ?_ _));exact BK182.out) hb);have n1_:=Aside0.mk (blk_below (g:=gb190) (o:=.cells #[.string ((rd_T50 t186 (ji16)).f1)] 9 (0,0)) (by (with_reducible repeat (first | refine blk_drewN ?_ _ | refine blk_drew ?_ | refine blk_alloc ?_ _));exact BK190.out) hb);have n2_:=Aside0.mk (below_step (by repeat (first | (with_reducible first | exact HB.out | apply below_alloc | apply pw_below_drewN | apply below_drew1 | refine below_set ?_ GE182.out | refine below_set ?_ GE190.out) | exact HB.out)) hb);clear BK182;clear BK190;clear HB;have BK182:=n0_;have BK190:=n1_;have HB:=n2_;clear n0_ n1_ n2_;(try clear hb);(try clear hb2);(try clear hk);(try clear hi);have hcz50_0:w49.cell? ⟨gb182,0,none⟩=some (.int .i64 a0_0):=(blk_cell BK182.out 0).trans rfl;have hcz50_1:w49.cell? ⟨gb182,1,none⟩=some (.int .i64 a0_1):=(blk_cell BK182.out 1).trans rfl;have hcz50_2:w49.cell? ⟨gb182,2,none⟩=some (.int .i64 a0_2):=(blk_cell BK182.out 2).trans rfl;have hcz50_3:w49.cell? ⟨gb182,3,none⟩=some (.string a0_3):=(blk_cell BK182.out 3).trans rfl;have hcz50_4:w49.cell? ⟨gb182,4,none⟩=some (.string a0_4):=(blk_cell BK182.out 4).trans rfl;have hcz50_5:w49.cell? ⟨gb182,5,none⟩=some (.int .i64 a0_5):=(blk_cell BK182.out 5).trans rfl;have hfz50_0:=blk_frozen BK182.out 0;have hfz50_1:=blk_frozen BK182.out 1;have hfz50_2:=blk_frozen BK182.out 2;have hfz50_3:=blk_frozen BK182.out 3;have hfz50_4:=blk_frozen BK182.out 4;have hfz50_5:=blk_frozen BK182.out 5) | (go_at_call 42;(with_reducible refine (Y6.calls kj18 a0_4 true _ A43.out).mono ?_);rintro e w' ⟨rfl,⟨nd,rfl⟩⟩))
              go_ret
              exact ⟨by first | rfl | (simp [errW_none,errW_some] <;> rfl) | (simp only [← hji16];first | rfl | (simp [errW_none,errW_some] <;> rfl)) | (simp [*,errW_none,errW_some] <;> rfl),by repeat (first | (with_reducible first | exact HB.out | apply below_alloc | apply pw_below_drewN | apply below_drew1 | refine below_set ?_ GE182.out | refine below_set ?_ GE190.out) | exact HB.out)⟩
             ·rw [if_neg c45] at H
              have c45b0:decide ((a0_4.size:Int)≤16)=false:=decide_eq_false c45
              have c45b1:decide (a0_4.size≤16)=false:=decide_eq_false (by omega)
              clear c45
              replace H:=Option.bind_eq_some_iff.mp H
              obtain ⟨t199,A510,H⟩:=H
              replace H:(if t199=true then (some false) else (some (a0_4.toList == ([]:List UInt8))))=some r:=H
              have A51:=Aside0.mk A510
              clear A510
              by_cases c52:t199=true
              ·subst c52
               have H1:(some false)=some r:=by rw [if_pos rfl] at H;exact H
               clear H
               have H:=H1
               clear H1
               obtain rfl:=Option.some.inj H
               go_wp2_with (first | (go_at_call 39;(with_reducible refine (Y0.calls kj18 (⟨#[75]⟩:ByteArray) gb190 ((rd_T50 t186 (ji16)).f1) true _ ?side1 A37.out).mono ?_);(case side1=>(with_reducible repeat (first | refine blk_drewN ?_ _ | refine blk_drew ?_ | refine blk_alloc ?_ _));exact BK190.out);rintro e w53 ⟨rfl,hb⟩;have n0_:=Aside0.mk (blk_below (g:=gb182) (o:=.cells #[.int .i64 a0_0,.int .i64 a0_1,.int .i64 a0_2,.string a0_3,.string a0_4,.int .i64 a0_5] 23 (0,0)) (by (with_reducible repeat (first | refine blk_drewN ?_ _ | refine blk_drew ?_ | refine blk_alloc ?_ _));exact BK182.out) hb);have n1_:=Aside0.mk (blk_below (g:=gb190) (o:=.cells #[.string ((rd_T50 t186 (ji16)).f1)] 9 (0,0)) (by (with_reducible repeat (first | refine blk_drewN ?_ _ | refine blk_drew ?_ | refine blk_alloc ?_ _));exact BK190.out) hb);have n2_:=Aside0.mk (below_step (by repeat (first | (with_reducible first | exact HB.out | apply below_alloc | apply pw_below_drewN | apply below_drew1 | refine below_set ?_ GE182.out | refine below_set ?_ GE190.out) | exact HB.out)) hb);clear BK182;clear BK190;clear HB;have BK182:=n0_;have BK190:=n1_;have HB:=n2_;clear n0_ n1_ n2_;(try clear hb);(try clear hb2);(try clear hk);(try clear hi);have hnb54:=NB182_190.out;have hnc54:=NB190_182.out;have hcz55_0:w53.cell? ⟨gb182,0,none⟩=some (.int .i64 a0_0):=(blk_cell BK182.out 0).trans rfl;have hcz55_1:w53.cell? ⟨gb182,1,none⟩=some (.int .i64 a0_1):=(blk_cell BK182.out 1).trans rfl;have hcz55_2:w53.cell? ⟨gb182,2,none⟩=some (.int .i64 a0_2):=(blk_cell BK182.out 2).trans rfl;have hcz55_3:w53.cell? ⟨gb182,3,none⟩=some (.string a0_3):=(blk_cell BK182.out 3).trans rfl;have hcz55_4:w53.cell? ⟨gb182,4,none⟩=some (.string a0_4):=(blk_cell BK182.out 4).trans rfl;have hcz55_5:w53.cell? ⟨gb182,5,none⟩=some (.int .i64 a0_5):=(blk_cell BK182.out 5).trans rfl;have hfz55_0:=blk_frozen BK182.out 0;have hfz55_1:=blk_frozen BK182.out 1;have hfz55_2:=blk_frozen BK182.out 2;have hfz55_3:=blk_frozen BK182.out 3;have hfz55_4:=blk_frozen BK182.out 4;have hfz55_5:=blk_frozen BK182.out 5) | (go_at_call 42;(with_reducible refine (Y6.calls kj18 a0_3 true _ A39.out).mono ?_);rintro e w' ⟨rfl,⟨nd,rfl⟩⟩) | (go_at_call 39;(with_reducible refine (Y0.calls kj18 (⟨#[68]⟩:ByteArray) gb190 ((rd_T50 t186 (ji16)).f1) true _ ?side1 A41.out).mono ?_);(case side1=>(with_reducible repeat (first | refine blk_drewN ?_ _ | refine blk_drew ?_ | refine blk_alloc ?_ _));exact BK190.out);rintro e w56 ⟨rfl,hb⟩;have n0_:=Aside0.mk (blk_below (g:=gb182) (o:=.cells #[.int .i64 a0_0,.int .i64 a0_1,.int .i64 a0_2,.string a0_3,.string a0_4,.int .i64 a0_5] 23 (0,0)) (by (with_reducible repeat (first | refine blk_drewN ?_ _ | refine blk_drew ?_ | refine blk_alloc ?_ _));exact BK182.out) hb);have n1_:=Aside0.mk (blk_below (g:=gb190) (o:=.cells #[.string ((rd_T50 t186 (ji16)).f1)] 9 (0,0)) (by (with_reducible repeat (first | refine blk_drewN ?_ _ | refine blk_drew ?_ | refine blk_alloc ?_ _));exact BK190.out) hb);have n2_:=Aside0.mk (below_step (by repeat (first | (with_reducible first | exact HB.out | apply below_alloc | apply pw_below_drewN | apply below_drew1 | refine below_set ?_ GE182.out | refine below_set ?_ GE190.out) | exact HB.out)) hb);clear BK182;clear BK190;clear HB;have BK182:=n0_;have BK190:=n1_;have HB:=n2_;clear n0_ n1_ n2_;(try clear hb);(try clear hb2);(try clear hk);(try clear hi);have hcz57_0:w56.cell? ⟨gb182,0,none⟩=some (.int .i64 a0_0):=(blk_cell BK182.out 0).trans rfl;have hcz57_1:w56.cell? ⟨gb182,1,none⟩=some (.int .i64 a0_1):=(blk_cell BK182.out 1).trans rfl;have hcz57_2:w56.cell? ⟨gb182,2,none⟩=some (.int .i64 a0_2):=(blk_cell BK182.out 2).trans rfl;have hcz57_3:w56.cell? ⟨gb182,3,none⟩=some (.string a0_3):=(blk_cell BK182.out 3).trans rfl;have hcz57_4:w56.cell? ⟨gb182,4,none⟩=some (.string a0_4):=(blk_cell BK182.out 4).trans rfl;have hcz57_5:w56.cell? ⟨gb182,5,none⟩=some (.int .i64 a0_5):=(blk_cell BK182.out 5).trans rfl;have hfz57_0:=blk_frozen BK182.out 0;have hfz57_1:=blk_frozen BK182.out 1;have hfz57_2:=blk_frozen BK182.out 2;have hfz57_3:=blk_frozen BK182.out 3;have hfz57_4:=blk_frozen BK182.out 4;have hfz57_5:=blk_frozen BK182.out 5) | (go_at_call 42;(with_reducible refine (Y6.calls kj18 a0_4 true _ A43.out).mono ?_);rintro e w' ⟨rfl,⟨nd,rfl⟩⟩))
               go_ret
               exact ⟨by first | rfl | (simp [errW_none,errW_some] <;> rfl) | (simp only [← hji16];first | rfl | (simp [errW_none,errW_some] <;> rfl)) | (simp [*,errW_none,errW_some] <;> rfl),by repeat (first | (with_reducible first | exact HB.out | apply below_alloc | apply pw_below_drewN | apply below_drew1 | refine below_set ?_ GE182.out | refine below_set ?_ GE190.out) | exact HB.out)⟩
              ·replace c52:=Bool.eq_false_iff.mpr c52
               subst c52
               exact absurd (Option.some.inj (A41.out.symm.trans A51.out)) (by decide)
            ·replace c44:=Bool.eq_false_iff.mpr c44
             subst c44
             have H1:((Y0.f kj18 (⟨#[68]⟩:ByteArray) ((rd_T50 t186 (ji16)).f1)).bind fun t200=>(if t200=true then (some false) else (some (a0_4.toList == ([]:List UInt8)))))=some r:=by rw [if_neg (show ¬ (false=true) by decide)] at H;exact H
             clear H
             have H:=H1
             clear H1
             replace H:=Option.bind_eq_some_iff.mp H
             obtain ⟨t200,A660,H⟩:=H
             replace H:(if t200=true then (some false) else (some (a0_4.toList == ([]:List UInt8))))=some r:=H
             have A66:=Aside0.mk A660
             clear A660
             by_cases c67:t200=true
             ·subst c67
              have H1:(some false)=some r:=by rw [if_pos rfl] at H;exact H
              clear H
              have H:=H1
              clear H1
              obtain rfl:=Option.some.inj H
              go_wp2_with (first | (go_at_call 39;(with_reducible refine (Y0.calls kj18 (⟨#[75]⟩:ByteArray) gb190 ((rd_T50 t186 (ji16)).f1) true _ ?side1 A37.out).mono ?_);(case side1=>(with_reducible repeat (first | refine blk_drewN ?_ _ | refine blk_drew ?_ | refine blk_alloc ?_ _));exact BK190.out);rintro e w68 ⟨rfl,hb⟩;have n0_:=Aside0.mk (blk_below (g:=gb182) (o:=.cells #[.int .i64 a0_0,.int .i64 a0_1,.int .i64 a0_2,.string a0_3,.string a0_4,.int .i64 a0_5] 23 (0,0)) (by (with_reducible repeat (first | refine blk_drewN ?_ _ | refine blk_drew ?_ | refine blk_alloc ?_ _));exact BK182.out) hb);have n1_:=Aside0.mk (blk_below (g:=gb190) (o:=.cells #[.string ((rd_T50 t186 (ji16)).f1)] 9 (0,0)) (by (with_reducible repeat (first | refine blk_drewN ?_ _ | refine blk_drew ?_ | refine blk_alloc ?_ _));exact BK190.out) hb);have n2_:=Aside0.mk (below_step (by repeat (first | (with_reducible first | exact HB.out | apply below_alloc | apply pw_below_drewN | apply below_drew1 | refine below_set ?_ GE182.out | refine below_set ?_ GE190.out) | exact HB.out)) hb);clear BK182;clear BK190;clear HB;have BK182:=n0_;have BK190:=n1_;have HB:=n2_;clear n0_ n1_ n2_;(try clear hb);(try clear hb2);(try clear hk);(try clear hi);have hnb69:=NB182_190.out;have hnc69:=NB190_182.out;have hcz70_0:w68.cell? ⟨gb182,0,none⟩=some (.int .i64 a0_0):=(blk_cell BK182.out 0).trans rfl;have hcz70_1:w68.cell? ⟨gb182,1,none⟩=some (.int .i64 a0_1):=(blk_cell BK182.out 1).trans rfl;have hcz70_2:w68.cell? ⟨gb182,2,none⟩=some (.int .i64 a0_2):=(blk_cell BK182.out 2).trans rfl;have hcz70_3:w68.cell? ⟨gb182,3,none⟩=some (.string a0_3):=(blk_cell BK182.out 3).trans rfl;have hcz70_4:w68.cell? ⟨gb182,4,none⟩=some (.string a0_4):=(blk_cell BK182.out 4).trans rfl;have hcz70_5:w68.cell? ⟨gb182,5,none⟩=some (.int .i64 a0_5):=(blk_cell BK182.out 5).trans rfl;have hfz70_0:=blk_frozen BK182.out 0;have hfz70_1:=blk_frozen BK182.out 1;have hfz70_2:=blk_frozen BK182.out 2;have hfz70_3:=blk_frozen BK182.out 3;have hfz70_4:=blk_frozen BK182.out 4;have hfz70_5:=blk_frozen BK182.out 5) | (go_at_call 42;(with_reducible refine (Y6.calls kj18 a0_3 true _ A39.out).mono ?_);rintro e w' ⟨rfl,⟨nd,rfl⟩⟩) | (go_at_call 39;(with_reducible refine (Y0.calls kj18 (⟨#[68]⟩:ByteArray) gb190 ((rd_T50 t186 (ji16)).f1) true _ ?side1 A41.out).mono ?_);(case side1=>(with_reducible repeat (first | refine blk_drewN ?_ _ | refine blk_drew ?_ | refine blk_alloc ?_ _));exact BK190.out);rintro e w71 ⟨rfl,hb⟩;have n0_:=Aside0.mk (blk_below (g:=gb182) (o:=.cells #[.int .i64 a0_0,.int .i64 a0_1,.int .i64 a0_2,.string a0_3,.string a0_4,.int .i64 a0_5] 23 (0,0)) (by (with_reducible repeat (first | refine blk_drewN ?_ _ | refine blk_drew ?_ | refine blk_alloc ?_ _));exact BK182.out) hb);have n1_:=Aside0.mk (blk_below (g:=gb190) (o:=.cells #[.string ((rd_T50 t186 (ji16)).f1)] 9 (0,0)) (by (with_reducible repeat (first | refine blk_drewN ?_ _ | refine blk_drew ?_ | refine blk_alloc ?_ _));exact BK190.out) hb);have n2_:=Aside0.mk (below_step (by repeat (first | (with_reducible first | exact HB.out | apply below_alloc | apply pw_below_drewN | apply below_drew1 | refine below_set ?_ GE182.out | refine below_set ?_ GE190.out) | exact HB.out)) hb);clear BK182;clear BK190;clear HB;have BK182:=n0_;have BK190:=n1_;have HB:=n2_;clear n0_ n1_ n2_;(try clear hb);(try clear hb2);(try clear hk);(try clear hi);have hcz72_0:w71.cell? ⟨gb182,0,none⟩=some (.int .i64 a0_0):=(blk_cell BK182.out 0).trans rfl;have hcz72_1:w71.cell? ⟨gb182,1,none⟩=some (.int .i64 a0_1):=(blk_cell BK182.out 1).trans rfl;have hcz72_2:w71.cell? ⟨gb182,2,none⟩=some (.int .i64 a0_2):=(blk_cell BK182.out 2).trans rfl;have hcz72_3:w71.cell? ⟨gb182,3,none⟩=some (.string a0_3):=(blk_cell BK182.out 3).trans rfl;have hcz72_4:w71.cell? ⟨gb182,4,none⟩=some (.string a0_4):=(blk_cell BK182.out 4).trans rfl;have hcz72_5:w71.cell? ⟨gb182,5,none⟩=some (.int .i64 a0_5):=(blk_cell BK182.out 5).trans rfl;have hfz72_0:=blk_frozen BK182.out 0;have hfz72_1:=blk_frozen BK182.out 1;have hfz72_2:=blk_frozen BK182.out 2;have hfz72_3:=blk_frozen BK182.out 3;have hfz72_4:=blk_frozen BK182.out 4;have hfz72_5:=blk_frozen BK182.out 5) | (go_at_call 42;(with_reducible refine (Y6.calls kj18 a0_4 false _ A43.out).mono ?_);rintro e w' ⟨rfl,⟨nd,rfl⟩⟩))
              go_ret
              exact ⟨by first | rfl | (simp [errW_none,errW_some] <;> rfl) | (simp only [← hji16];first | rfl | (simp [errW_none,errW_some] <;> rfl)) | (simp [*,errW_none,errW_some] <;> rfl),by repeat (first | (with_reducible first | exact HB.out | apply below_alloc | apply pw_below_drewN | apply below_drew1 | refine below_set ?_ GE182.out | refine below_set ?_ GE190.out) | exact HB.out)⟩
             ·replace c67:=Bool.eq_false_iff.mpr c67
              subst c67
              exact absurd (Option.some.inj (A41.out.symm.trans A66.out)) (by decide)
           ·replace c42:=Bool.eq_false_iff.mpr c42
            subst c42
            have H1:((Y0.f kj18 (⟨#[68]⟩:ByteArray) ((rd_T50 t186 (ji16)).f1)).bind fun t201=>(if t201=true then (some false) else (some (a0_4.toList == ([]:List UInt8)))))=some r:=by rw [if_neg (show ¬ (false=true) by decide)] at H;exact H
            clear H
            have H:=H1
            clear H1
            replace H:=Option.bind_eq_some_iff.mp H
            obtain ⟨t201,A810,H⟩:=H
            replace H:(if t201=true then (some false) else (some (a0_4.toList == ([]:List UInt8))))=some r:=H
            have A81:=Aside0.mk A810
            clear A810
            by_cases c82:t201=true
            ·subst c82
             exact absurd (Option.some.inj (A81.out.symm.trans A41.out)) (by decide)
            ·replace c82:=Bool.eq_false_iff.mpr c82
             subst c82
             have H1:(some (a0_4.toList == ([]:List UInt8)))=some r:=by rw [if_neg (show ¬ (false=true) by decide)] at H;exact H
             clear H
             have H:=H1
             clear H1
             obtain rfl:=Option.some.inj H
             go_wp2_with (first | (go_at_call 39;(with_reducible refine (Y0.calls kj18 (⟨#[75]⟩:ByteArray) gb190 ((rd_T50 t186 (ji16)).f1) true _ ?side1 A37.out).mono ?_);(case side1=>(with_reducible repeat (first | refine blk_drewN ?_ _ | refine blk_drew ?_ | refine blk_alloc ?_ _));exact BK190.out);rintro e w88 ⟨rfl,hb⟩;have n0_:=Aside0.mk (blk_below (g:=gb182) (o:=.cells #[.int .i64 a0_0,.int .i64 a0_1,.int .i64 a0_2,.string a0_3,.string a0_4,.int .i64 a0_5] 23 (0,0)) (by (with_reducible repeat (first | refine blk_drewN ?_ _ | refine blk_drew ?_ | refine blk_alloc ?_ _));exact BK182.out) hb);have n1_:=Aside0.mk (blk_below (g:=gb190) (o:=.cells #[.string ((rd_T50 t186 (ji16)).f1)] 9 (0,0)) (by (with_reducible repeat (first | refine blk_drewN ?_ _ | refine blk_drew ?_ | refine blk_alloc ?_ _));exact BK190.out) hb);have n2_:=Aside0.mk (below_step (by repeat (first | (with_reducible first | exact HB.out | apply below_alloc | apply pw_below_drewN | apply below_drew1 | refine below_set ?_ GE182.out | refine below_set ?_ GE190.out) | exact HB.out)) hb);clear BK182;clear BK190;clear HB;have BK182:=n0_;have BK190:=n1_;have HB:=n2_;clear n0_ n1_ n2_;(try clear hb);(try clear hb2);(try clear hk);(try clear hi);have hnb89:=NB182_190.out;have hnc89:=NB190_182.out;have hcz90_0:w88.cell? ⟨gb182,0,none⟩=some (.int .i64 a0_0):=(blk_cell BK182.out 0).trans rfl;have hcz90_1:w88.cell? ⟨gb182,1,none⟩=some (.int .i64 a0_1):=(blk_cell BK182.out 1).trans rfl;have hcz90_2:w88.cell? ⟨gb182,2,none⟩=some (.int .i64 a0_2):=(blk_cell BK182.out 2).trans rfl;have hcz90_3:w88.cell? ⟨gb182,3,none⟩=some (.string a0_3):=(blk_cell BK182.out 3).trans rfl;have hcz90_4:w88.cell? ⟨gb182,4,none⟩=some (.string a0_4):=(blk_cell BK182.out 4).trans rfl;have hcz90_5:w88.cell? ⟨gb182,5,none⟩=some (.int .i64 a0_5):=(blk_cell BK182.out 5).trans rfl;have hfz90_0:=blk_frozen BK182.out 0;have hfz90_1:=blk_frozen BK182.out 1;have hfz90_2:=blk_frozen BK182.out 2;have hfz90_3:=blk_frozen BK182.out 3;have hfz90_4:=blk_frozen BK182.out 4;have hfz90_5:=blk_frozen BK182.out 5) | (go_at_call 42;(with_reducible refine (Y6.calls kj18 a0_3 true _ A39.out).mono ?_);rintro e w' ⟨rfl,⟨nd,rfl⟩⟩) | (go_at_call 39;(with_reducible refine (Y0.calls kj18 (⟨#[68]⟩:ByteArray) gb190 ((rd_T50 t186 (ji16)).f1) false _ ?side1 A41.out).mono ?_);(case side1=>(with_reducible repeat (first | refine blk_drewN ?_ _ | refine blk_drew ?_ | refine blk_alloc ?_ _));exact BK190.out);rintro e w91 ⟨rfl,hb⟩;have n0_:=Aside0.mk (blk_below (g:=gb182) (o:=.cells #[.int .i64 a0_0,.int .i64 a0_1,.int .i64 a0_2,.string a0_3,.string a0_4,.int .i64 a0_5] 23 (0,0)) (by (with_reducible repeat (first | refine blk_drewN ?_ _ | refine blk_drew ?_ | refine blk_alloc ?_ _));exact BK182.out) hb);have n1_:=Aside0.mk (blk_below (g:=gb190) (o:=.cells #[.string ((rd_T50 t186 (ji16)).f1)] 9 (0,0)) (by (with_reducible repeat (first | refine blk_drewN ?_ _ | refine blk_drew ?_ | refine blk_alloc ?_ _));exact BK190.out) hb);have n2_:=Aside0.mk (below_step (by repeat (first | (with_reducible first | exact HB.out | apply below_alloc | apply pw_below_drewN | apply below_drew1 | refine below_set ?_ GE182.out | refine below_set ?_ GE190.out) | exact HB.out)) hb);clear BK182;clear BK190;clear HB;have BK182:=n0_;have BK190:=n1_;have HB:=n2_;clear n0_ n1_ n2_;(try clear hb);(try clear hb2);(try clear hk);(try clear hi);have hcz93_0:w91.cell? ⟨gb182,0,none⟩=some (.int .i64 a0_0):=(blk_cell BK182.out 0).trans rfl;have hcz93_1:w91.cell? ⟨gb182,1,none⟩=some (.int .i64 a0_1):=(blk_cell BK182.out 1).trans rfl;have hcz93_2:w91.cell? ⟨gb182,2,none⟩=some (.int .i64 a0_2):=(blk_cell BK182.out 2).trans rfl;have hcz93_3:w91.cell? ⟨gb182,3,none⟩=some (.string a0_3):=(blk_cell BK182.out 3).trans rfl;have hcz93_4:w91.cell? ⟨gb182,4,none⟩=some (.string a0_4):=(blk_cell BK182.out 4).trans rfl;have hcz93_5:w91.cell? ⟨gb182,5,none⟩=some (.int .i64 a0_5):=(blk_cell BK182.out 5).trans rfl;have hfz93_0:=blk_frozen BK182.out 0;have hfz93_1:=blk_frozen BK182.out 1;have hfz93_2:=blk_frozen BK182.out 2;have hfz93_3:=blk_frozen BK182.out 3;have hfz93_4:=blk_frozen BK182.out 4;have hfz93_5:=blk_frozen BK182.out 5))
             go_ret
             exact ⟨by first | rfl | (simp [errW_none,errW_some] <;> rfl) | (simp only [← hji16];first | rfl | (simp [errW_none,errW_some] <;> rfl)) | (simp [*,errW_none,errW_some] <;> rfl),by repeat (first | (with_reducible first | exact HB.out | apply below_alloc | apply pw_below_drewN | apply below_drew1 | refine below_set ?_ GE182.out | refine below_set ?_ GE190.out) | exact HB.out)⟩
          ·replace c40:=Bool.eq_false_iff.mpr c40
           subst c40
           have H1:((Y0.f kj18 (⟨#[75]⟩:ByteArray) ((rd_T50 t186 (ji16)).f1)).bind fun t202=>(if t202=true then (some false) else (if a0_3.toList=([]:List UInt8) then ((Y0.f kj18 (⟨#[68]⟩:ByteArray) ((rd_T50 t186 (ji16)).f1)).bind fun t203=>(if t203=true then ((Y6.f kj18 a0_4).bind fun t204=>(if t204=true then (if (a0_4.size:Int)≤16 then (some true) else ((Y0.f kj18 (⟨#[68]⟩:ByteArray) ((rd_T50 t186 (ji16)).f1)).bind fun t205=>(if t205=true then (some false) else (some (a0_4.toList == ([]:List UInt8)))))) else ((Y0.f kj18 (⟨#[68]⟩:ByteArray) ((rd_T50 t186 (ji16)).f1)).bind fun t206=>(if t206=true then (some false) else (some (a0_4.toList == ([]:List UInt8))))))) else ((Y0.f kj18 (⟨#[68]⟩:ByteArray) ((rd_T50 t186 (ji16)).f1)).bind fun t207=>(if t207=true then (some false) else (some (a0_4.toList == ([]:List UInt8))))))) else (some false))))=some r:=by rw [if_neg (show ¬ (false=true) by decide)] at H;exact H
           clear H
           have H:=H1
           clear H1
           replace H:=Option.bind_eq_some_iff.mp H
           obtain ⟨t202,A940,H⟩:=H
           replace H:(if t202=true then (some false) else (if a0_3.toList=([]:List UInt8) then ((Y0.f kj18 (⟨#[68]⟩:ByteArray) ((rd_T50 t186 (ji16)).f1)).bind fun t203=>(if t203=true then ((Y6.f kj18 a0_4).bind fun t204=>(if t204=true then (if (a0_4.size:Int)≤16 then (some true) else ((Y0.f kj18 (⟨#[68]⟩:ByteArray) ((rd_T50 t186 (ji16)).f1)).bind fun t205=>(if t205=true then (some false) else (some (a0_4.toList == ([]:List UInt8)))))) else ((Y0.f kj18 (⟨#[68]⟩:ByteArray) ((rd_T50 t186 (ji16)).f1)).bind fun t206=>(if t206=true then (some false) else (some (a0_4.toList == ([]:List UInt8))))))) else ((Y0.f kj18 (⟨#[68]⟩:ByteArray) ((rd_T50 t186 (ji16)).f1)).bind fun t207=>(if t207=true then (some false) else (some (a0_4.toList == ([]:List UInt8))))))) else (some false)))=some r:=H
           have A94:=Aside0.mk A940
           clear A940
           by_cases c95:t202=true
           ·subst c95
            have H1:(some false)=some r:=by rw [if_pos rfl] at H;exact H
            clear H
            have H:=H1
            clear H1
            obtain rfl:=Option.some.inj H
            go_wp2_with (first | (go_at_call 39;(with_reducible refine (Y0.calls kj18 (⟨#[75]⟩:ByteArray) gb190 ((rd_T50 t186 (ji16)).f1) true _ ?side1 A37.out).mono ?_);(case side1=>(with_reducible repeat (first | refine blk_drewN ?_ _ | refine blk_drew ?_ | refine blk_alloc ?_ _));exact BK190.out);rintro e w96 ⟨rfl,hb⟩;have n0_:=Aside0.mk (blk_below (g:=gb182) (o:=.cells #[.int .i64 a0_0,.int .i64 a0_1,.int .i64 a0_2,.string a0_3,.string a0_4,.int .i64 a0_5] 23 (0,0)) (by (with_reducible repeat (first | refine blk_drewN ?_ _ | refine blk_drew ?_ | refine blk_alloc ?_ _));exact BK182.out) hb);have n1_:=Aside0.mk (blk_below (g:=gb190) (o:=.cells #[.string ((rd_T50 t186 (ji16)).f1)] 9 (0,0)) (by (with_reducible repeat (first | refine blk_drewN ?_ _ | refine blk_drew ?_ | refine blk_alloc ?_ _));exact BK190.out) hb);have n2_:=Aside0.mk (below_step (by repeat (first | (with_reducible first | exact HB.out | apply below_alloc | apply pw_below_drewN | apply below_drew1 | refine below_set ?_ GE182.out | refine below_set ?_ GE190.out) | exact HB.out)) hb);clear BK182;clear BK190;clear HB;have BK182:=n0_;have BK190:=n1_;have HB:=n2_;clear n0_ n1_ n2_;(try clear hb);(try clear hb2);(try clear hk);(try clear hi);have hnb97:=NB182_190.out;have hnc97:=NB190_182.out;have hcz98_0:w96.cell? ⟨gb182,0,none⟩=some (.int .i64 a0_0):=(blk_cell BK182.out 0).trans rfl;have hcz98_1:w96.cell? ⟨gb182,1,none⟩=some (.int .i64 a0_1):=(blk_cell BK182.out 1).trans rfl;have hcz98_2:w96.cell? ⟨gb182,2,none⟩=some (.int .i64 a0_2):=(blk_cell BK182.out 2).trans rfl;have hcz98_3:w96.cell? ⟨gb182,3,none⟩=some (.string a0_3):=(blk_cell BK182.out 3).trans rfl;have hcz98_4:w96.cell? ⟨gb182,4,none⟩=some (.string a0_4):=(blk_cell BK182.out 4).trans rfl;have hcz98_5:w96.cell? ⟨gb182,5,none⟩=some (.int .i64 a0_5):=(blk_cell BK182.out 5).trans rfl;have hfz98_0:=blk_frozen BK182.out 0;have hfz98_1:=blk_frozen BK182.out 1;have hfz98_2:=blk_frozen BK182.out 2;have hfz98_3:=blk_frozen BK182.out 3;have hfz98_4:=blk_frozen BK182.out 4;have hfz98_5:=blk_frozen BK182.out 5) | (go_at_call 42;(with_reducible refine (Y6.calls kj18 a0_3 false _ A39.out).mono ?_);rintro e w' ⟨rfl,⟨nd,rfl⟩⟩))
            go_ret
            exact ⟨by first | rfl | (simp [errW_none,errW_some] <;> rfl) | (simp only [← hji16];first | rfl | (simp [errW_none,errW_some] <;> rfl)) | (simp [*,errW_none,errW_some] <;> rfl),by repeat (first | (with_reducible first | exact HB.out | apply below_alloc | apply pw_below_drewN | apply below_drew1 | refine below_set ?_ GE182.out | refine below_set ?_ GE190.out) | exact HB.out)⟩
           ·replace c95:=Bool.eq_false_iff.mpr c95
            subst c95
            exact absurd (Option.some.inj (A37.out.symm.trans A94.out)) (by decide)
         ·replace c38:=Bool.eq_false_iff.mpr c38
          subst c38
          have H1:((Y0.f kj18 (⟨#[75]⟩:ByteArray) ((rd_T50 t186 (ji16)).f1)).bind fun t208=>(if t208=true then (some false) else (if a0_3.toList=([]:List UInt8) then ((Y0.f kj18 (⟨#[68]⟩:ByteArray) ((rd_T50 t186 (ji16)).f1)).bind fun t209=>(if t209=true then ((Y6.f kj18 a0_4).bind fun t210=>(if t210=true then (if (a0_4.size:Int)≤16 then (some true) else ((Y0.f kj18 (⟨#[68]⟩:ByteArray) ((rd_T50 t186 (ji16)).f1)).bind fun t211=>(if t211=true then (some false) else (some (a0_4.toList == ([]:List UInt8)))))) else ((Y0.f kj18 (⟨#[68]⟩:ByteArray) ((rd_T50 t186 (ji16)).f1)).bind fun t212=>(if t212=true then (some false) else (some (a0_4.toList == ([]:List UInt8))))))) else ((Y0.f kj18 (⟨#[68]⟩:ByteArray) ((rd_T50 t186 (ji16)).f1)).bind fun t213=>(if t213=true then (some false) else (some (a0_4.toList == ([]:List UInt8))))))) else (some false))))=some r:=by rw [if_neg (show ¬ (false=true) by decide)] at H;exact H
          clear H
          have H:=H1
          clear H1
          replace H:=Option.bind_eq_some_iff.mp H
          obtain ⟨t208,A1730,H⟩:=H
          replace H:(if t208=true then (some false) else (if a0_3.toList=([]:List UInt8) then ((Y0.f kj18 (⟨#[68]⟩:ByteArray) ((rd_T50 t186 (ji16)).f1)).bind fun t209=>(if t209=true then ((Y6.f kj18 a0_4).bind fun t210=>(if t210=true then (if (a0_4.size:Int)≤16 then (some true) else ((Y0.f kj18 (⟨#[68]⟩:ByteArray) ((rd_T50 t186 (ji16)).f1)).bind fun t211=>(if t211=true then (some false) else (some (a0_4.toList == ([]:List UInt8)))))) else ((Y0.f kj18 (⟨#[68]⟩:ByteArray) ((rd_T50 t186 (ji16)).f1)).bind fun t212=>(if t212=true then (some false) else (some (a0_4.toList == ([]:List UInt8))))))) else ((Y0.f kj18 (⟨#[68]⟩:ByteArray) ((rd_T50 t186 (ji16)).f1)).bind fun t213=>(if t213=true then (some false) else (some (a0_4.toList == ([]:List UInt8))))))) else (some false)))=some r:=H
          have A173:=Aside0.mk A1730
          clear A1730
          by_cases c174:t208=true
          ·subst c174
           exact absurd (Option.some.inj (A173.out.symm.trans A37.out)) (by decide)
          ·replace c174:=Bool.eq_false_iff.mpr c174
           subst c174
           have H1:(if a0_3.toList=([]:List UInt8) then ((Y0.f kj18 (⟨#[68]⟩:ByteArray) ((rd_T50 t186 (ji16)).f1)).bind fun t209=>(if t209=true then ((Y6.f kj18 a0_4).bind fun t210=>(if t210=true then (if (a0_4.size:Int)≤16 then (some true) else ((Y0.f kj18 (⟨#[68]⟩:ByteArray) ((rd_T50 t186 (ji16)).f1)).bind fun t211=>(if t211=true then (some false) else (some (a0_4.toList == ([]:List UInt8)))))) else ((Y0.f kj18 (⟨#[68]⟩:ByteArray) ((rd_T50 t186 (ji16)).f1)).bind fun t212=>(if t212=true then (some false) else (some (a0_4.toList == ([]:List UInt8))))))) else ((Y0.f kj18 (⟨#[68]⟩:ByteArray) ((rd_T50 t186 (ji16)).f1)).bind fun t213=>(if t213=true then (some false) else (some (a0_4.toList == ([]:List UInt8))))))) else (some false))=some r:=by rw [if_neg (show ¬ (false=true) by decide)] at H;exact H
           clear H
           have H:=H1
           clear H1
           by_cases c177:a0_3.toList=([]:List UInt8)
           ·rw [if_pos c177] at H
            have c177b0:(a0_3.toList == ([]:List UInt8))=true:=beq_iff_eq.mpr c177
            have c177b1:(a0_3.toList != ([]:List UInt8))=false:=bne_eq_false_iff_eq.mpr c177
            clear c177
            replace H:=Option.bind_eq_some_iff.mp H
            obtain ⟨t209,A1780,H⟩:=H
            replace H:(if t209=true then ((Y6.f kj18 a0_4).bind fun t210=>(if t210=true then (if (a0_4.size:Int)≤16 then (some true) else ((Y0.f kj18 (⟨#[68]⟩:ByteArray) ((rd_T50 t186 (ji16)).f1)).bind fun t211=>(if t211=true then (some false) else (some (a0_4.toList == ([]:List UInt8)))))) else ((Y0.f kj18 (⟨#[68]⟩:ByteArray) ((rd_T50 t186 (ji16)).f1)).bind fun t212=>(if t212=true then (some false) else (some (a0_4.toList == ([]:List UInt8))))))) else ((Y0.f kj18 (⟨#[68]⟩:ByteArray) ((rd_T50 t186 (ji16)).f1)).bind fun t213=>(if t213=true then (some false) else (some (a0_4.toList == ([]:List UInt8))))))=some r:=H
            have A178:=Aside0.mk A1780
            clear A1780
            by_cases c179:t209=true
            ·subst c179
             have H1:((Y6.f kj18 a0_4).bind fun t210=>(if t210=true then (if (a0_4.size:Int)≤16 then (some true) else ((Y0.f kj18 (⟨#[68]⟩:ByteArray) ((rd_T50 t186 (ji16)).f1)).bind fun t211=>(if t211=true then (some false) else (some (a0_4.toList == ([]:List UInt8)))))) else ((Y0.f kj18 (⟨#[68]⟩:ByteArray) ((rd_T50 t186 (ji16)).f1)).bind fun t212=>(if t212=true then (some false) else (some (a0_4.toList == ([]:List UInt8)))))))=some r:=by rw [if_pos rfl] at H;exact H
             clear H
             have H:=H1
             clear H1
             replace H:=Option.bind_eq_some_iff.mp H
             obtain ⟨t210,A1800,H⟩:=H
             replace H:(if t210=true then (if (a0_4.size:Int)≤16 then (some true) else ((Y0.f kj18 (⟨#[68]⟩:ByteArray) ((rd_T50 t186 (ji16)).f1)).bind fun t211=>(if t211=true then (some false) else (some (a0_4.toList == ([]:List UInt8)))))) else ((Y0.f kj18 (⟨#[68]⟩:ByteArray) ((rd_T50 t186 (ji16)).f1)).bind fun t212=>(if t212=true then (some false) else (some (a0_4.toList == ([]:List UInt8))))))=some r:=H
             have A180:=Aside0.mk A1800
             clear A1800
             by_cases c181:t210=true
             ·subst c181
              have H1:(if (a0_4.size:Int)≤16 then (some true) else ((Y0.f kj18 (⟨#[68]⟩:ByteArray) ((rd_T50 t186 (ji16)).f1)).bind fun t211=>(if t211=true then (some false) else (some (a0_4.toList == ([]:List UInt8))))))=some r:=by rw [if_pos rfl] at H;exact H
              clear H
              have H:=H1
              clear H1
              by_cases c182:(a0_4.size:Int)≤16
              ·rw [if_pos c182] at H
               have c182b0:decide ((a0_4.size:Int)≤16)=true:=decide_eq_true c182
               have c182b1:decide (a0_4.size≤16)=true:=decide_eq_true (by omega)
               clear c182
               obtain rfl:=Option.some.inj H
               go_wp2_with (first | (go_at_call 39;(with_reducible refine (Y0.calls kj18 (⟨#[75]⟩:ByteArray) gb190 ((rd_T50 t186 (ji16)).f1) false _ ?side1 A37.out).mono ?_);(case side1=>(with_reducible repeat (first | refine blk_drewN ?_ _ | refine blk_drew ?_ | refine blk_alloc ?_ _));exact BK190.out);rintro e w183 ⟨rfl,hb⟩;have n0_:=Aside0.mk (blk_below (g:=gb182) (o:=.cells #[.int .i64 a0_0,.int .i64 a0_1,.int .i64 a0_2,.string a0_3,.string a0_4,.int .i64 a0_5] 23 (0,0)) (by (with_reducible repeat (first | refine blk_drewN ?_ _ | refine blk_drew ?_ | refine blk_alloc ?_ _));exact BK182.out) hb);have n1_:=Aside0.mk (blk_below (g:=gb190) (o:=.cells #[.string ((rd_T50 t186 (ji16)).f1)] 9 (0,0)) (by (with_reducible repeat (first | refine blk_drewN ?_ _ | refine blk_drew ?_ | refine blk_alloc ?_ _));exact BK190.out) hb);have n2_:=Aside0.mk (below_step (by repeat (first | (with_reducible first | exact HB.out | apply below_alloc | apply pw_below_drewN | apply below_drew1 | refine below_set ?_ GE182.out | refine below_set ?_ GE190.out) | exact HB.out)) hb);clear BK182;clear BK190;clear HB;have BK182:=n0_;have BK190:=n1_;have HB:=n2_;clear n0_ n1_ n2_;(try clear hb);(try clear hb2);(try clear hk);(try clear hi);have hnb185:=NB182_190.out;have hnc185:=NB190_182.out;have hcz186_0:w183.cell? ⟨gb182,0,none⟩=some (.int .i64 a0_0):=(blk_cell BK182.out 0).trans rfl;have hcz186_1:w183.cell? ⟨gb182,1,none⟩=some (.int .i64 a0_1):=(blk_cell BK182.out 1).trans rfl;have hcz186_2:w183.cell? ⟨gb182,2,none⟩=some (.int .i64 a0_2):=(blk_cell BK182.out 2).trans rfl;have hcz186_3:w183.cell? ⟨gb182,3,none⟩=some (.string a0_3):=(blk_cell BK182.out 3).trans rfl;have hcz186_4:w183.cell? ⟨gb182,4,none⟩=some (.string a0_4):=(blk_cell BK182.out 4).trans rfl;have hcz186_5:w183.cell? ⟨gb182,5,none⟩=some (.int .i64 a0_5):=(blk_cell BK182.out 5).trans rfl;have hfz186_0:=blk_frozen BK182.out 0;have hfz186_1:=blk_frozen BK182.out 1;have hfz186_2:=blk_frozen BK182.out 2;have hfz186_3:=blk_frozen BK182.out 3;have hfz186_4:=blk_frozen BK182.out 4;have hfz186_5:=blk_frozen BK182.out 5) | (go_at_call 39;(with_reducible refine (Y0.calls kj18 (⟨#[68]⟩:ByteArray) gb190 ((rd_T50 t186 (ji16)).f1) true _ ?side1 A178.out).mono ?_);(case side1=>(with_reducible repeat (first | refine blk_drewN ?_ _ | refine blk_drew ?_ | refine blk_alloc ?_ _));exact BK190.out);rintro e w187 ⟨rfl,hb⟩;have n0_:=Aside0.mk (blk_below (g:=gb182) (o:=.cells #[.int .i64 a0_0,.int .i64 a0_1,.int .i64 a0_2,.string a0_3,.string a0_4,.int .i64 a0_5] 23 (0,0)) (by (with_reducible repeat (first | refine blk_drewN ?_ _ | refine blk_drew ?_ | refine blk_alloc ?_ _));exact BK182.out) hb);have n1_:=Aside0.mk (blk_below (g:=gb190) (o:=.cells #[.string ((rd_T50 t186 (ji16)).f1)] 9 (0,0)) (by (with_reducible repeat (first | refine blk_drewN ?_ _ | refine blk_drew ?_ | refine blk_alloc ?_ _));exact BK190.out) hb);have n2_:=Aside0.mk (below_step (by repeat (first | (with_reducible first | exact HB.out | apply below_alloc | apply pw_below_drewN | apply below_drew1 | refine below_set ?_ GE182.out | refine below_set ?_ GE190.out) | exact HB.out)) hb);clear BK182;clear BK190;clear HB;have BK182:=n0_;have BK190:=n1_;have HB:=n2_;clear n0_ n1_ n2_;(try clear hb);(try clear hb2);(try clear hk);(try clear hi);have hcz188_0:w187.cell? ⟨gb182,0,none⟩=some (.int .i64 a0_0):=(blk_cell BK182.out 0).trans rfl;have hcz188_1:w187.cell? ⟨gb182,1,none⟩=some (.int .i64 a0_1):=(blk_cell BK182.out 1).trans rfl;have hcz188_2:w187.cell? ⟨gb182,2,none⟩=some (.int .i64 a0_2):=(blk_cell BK182.out 2).trans rfl;have hcz188_3:w187.cell? ⟨gb182,3,none⟩=some (.string a0_3):=(blk_cell BK182.out 3).trans rfl;have hcz188_4:w187.cell? ⟨gb182,4,none⟩=some (.string a0_4):=(blk_cell BK182.out 4).trans rfl;have hcz188_5:w187.cell? ⟨gb182,5,none⟩=some (.int .i64 a0_5):=(blk_cell BK182.out 5).trans rfl;have hfz188_0:=blk_frozen BK182.out 0;have hfz188_1:=blk_frozen BK182.out 1;have hfz188_2:=blk_frozen BK182.out 2;have hfz188_3:=blk_frozen BK182.out 3;have hfz188_4:=blk_frozen BK182.out 4;have hfz188_5:=blk_frozen BK182.out 5) | (go_at_call 42;(with_reducible refine (Y6.calls kj18 a0_4 true _ A180.out).mono ?_);rintro e w' ⟨rfl,⟨nd,rfl⟩⟩))
               go_ret
               exact ⟨by first | rfl | (simp [errW_none,errW_some] <;> rfl) | (simp only [← hji16];first | rfl | (simp [errW_none,errW_some] <;> rfl)) | (simp [*,errW_none,errW_some] <;> rfl),by repeat (first | (with_reducible first | exact HB.out | apply below_alloc | apply pw_below_drewN | apply below_drew1 | refine below_set ?_ GE182.out | refine below_set ?_ GE190.out) | exact HB.out)⟩
              ·rw [if_neg c182] at H
               have c182b0:decide ((a0_4.size:Int)≤16)=false:=decide_eq_false c182
               have c182b1:decide (a0_4.size≤16)=false:=decide_eq_false (by omega)
               clear c182
               replace H:=Option.bind_eq_some_iff.mp H
               obtain ⟨t211,A1890,H⟩:=H
               replace H:(if t211=true then (some false) else (some (a0_4.toList == ([]:List UInt8))))=some r:=H
               have A189:=Aside0.mk A1890
               clear A1890
               by_cases c190:t211=true
               ·subst c190
                have H1:(some false)=some r:=by rw [if_pos rfl] at H;exact H
                clear H
                have H:=H1
                clear H1
                obtain rfl:=Option.some.inj H
                go_wp2_with (first | (go_at_call 39;(with_reducible refine (Y0.calls kj18 (⟨#[75]⟩:ByteArray) gb190 ((rd_T50 t186 (ji16)).f1) false _ ?side1 A37.out).mono ?_);(case side1=>(with_reducible repeat (first | refine blk_drewN ?_ _ | refine blk_drew ?_ | refine blk_alloc ?_ _));exact BK190.out);rintro e w191 ⟨rfl,hb⟩;have n0_:=Aside0.mk (blk_below (g:=gb182) (o:=.cells #[.int .i64 a0_0,.int .i64 a0_1,.int .i64 a0_2,.string a0_3,.string a0_4,.int .i64 a0_5] 23 (0,0)) (by (with_reducible repeat (first | refine blk_drewN ?_ _ | refine blk_drew ?_ | refine blk_alloc ?_ _));exact BK182.out) hb);have n1_:=Aside0.mk (blk_below (g:=gb190) (o:=.cells #[.string ((rd_T50 t186 (ji16)).f1)] 9 (0,0)) (by (with_reducible repeat (first | refine blk_drewN ?_ _ | refine blk_drew ?_ | refine blk_alloc ?_ _));exact BK190.out) hb);have n2_:=Aside0.mk (below_step (by repeat (first | (with_reducible first | exact HB.out | apply below_alloc | apply pw_below_drewN | apply below_drew1 | refine below_set ?_ GE182.out | refine below_set ?_ GE190.out) | exact HB.out)) hb);clear BK182;clear BK190;clear HB;have BK182:=n0_;have BK190:=n1_;have HB:=n2_;clear n0_ n1_ n2_;(try clear hb);(try clear hb2);(try clear hk);(try clear hi);have hnb193:=NB182_190.out;have hnc193:=NB190_182.out;have hcz194_0:w191.cell? ⟨gb182,0,none⟩=some (.int .i64 a0_0):=(blk_cell BK182.out 0).trans rfl;have hcz194_1:w191.cell? ⟨gb182,1,none⟩=some (.int .i64 a0_1):=(blk_cell BK182.out 1).trans rfl;have hcz194_2:w191.cell? ⟨gb182,2,none⟩=some (.int .i64 a0_2):=(blk_cell BK182.out 2).trans rfl;have hcz194_3:w191.cell? ⟨gb182,3,none⟩=some (.string a0_3):=(blk_cell BK182.out 3).trans rfl;have hcz194_4:w191.cell? ⟨gb182,4,none⟩=some (.string a0_4):=(blk_cell BK182.out 4).trans rfl;have hcz194_5:w191.cell? ⟨gb182,5,none⟩=some (.int .i64 a0_5):=(blk_cell BK182.out 5).trans rfl;have hfz194_0:=blk_frozen BK182.out 0;have hfz194_1:=blk_frozen BK182.out 1;have hfz194_2:=blk_frozen BK182.out 2;have hfz194_3:=blk_frozen BK182.out 3;have hfz194_4:=blk_frozen BK182.out 4;have hfz194_5:=blk_frozen BK182.out 5) | (go_at_call 39;(with_reducible refine (Y0.calls kj18 (⟨#[68]⟩:ByteArray) gb190 ((rd_T50 t186 (ji16)).f1) true _ ?side1 A178.out).mono ?_);(case side1=>(with_reducible repeat (first | refine blk_drewN ?_ _ | refine blk_drew ?_ | refine blk_alloc ?_ _));exact BK190.out);rintro e w195 ⟨rfl,hb⟩;have n0_:=Aside0.mk (blk_below (g:=gb182) (o:=.cells #[.int .i64 a0_0,.int .i64 a0_1,.int .i64 a0_2,.string a0_3,.string a0_4,.int .i64 a0_5] 23 (0,0)) (by (with_reducible repeat (first | refine blk_drewN ?_ _ | refine blk_drew ?_ | refine blk_alloc ?_ _));exact BK182.out) hb);have n1_:=Aside0.mk (blk_below (g:=gb190) (o:=.cells #[.string ((rd_T50 t186 (ji16)).f1)] 9 (0,0)) (by (with_reducible repeat (first | refine blk_drewN ?_ _ | refine blk_drew ?_ | refine blk_alloc ?_ _));exact BK190.out) hb);have n2_:=Aside0.mk (below_step (by repeat (first | (with_reducible first | exact HB.out | apply below_alloc | apply pw_below_drewN | apply below_drew1 | refine below_set ?_ GE182.out | refine below_set ?_ GE190.out) | exact HB.out)) hb);clear BK182;clear BK190;clear HB;have BK182:=n0_;have BK190:=n1_;have HB:=n2_;clear n0_ n1_ n2_;(try clear hb);(try clear hb2);(try clear hk);(try clear hi);have hcz196_0:w195.cell? ⟨gb182,0,none⟩=some (.int .i64 a0_0):=(blk_cell BK182.out 0).trans rfl;have hcz196_1:w195.cell? ⟨gb182,1,none⟩=some (.int .i64 a0_1):=(blk_cell BK182.out 1).trans rfl;have hcz196_2:w195.cell? ⟨gb182,2,none⟩=some (.int .i64 a0_2):=(blk_cell BK182.out 2).trans rfl;have hcz196_3:w195.cell? ⟨gb182,3,none⟩=some (.string a0_3):=(blk_cell BK182.out 3).trans rfl;have hcz196_4:w195.cell? ⟨gb182,4,none⟩=some (.string a0_4):=(blk_cell BK182.out 4).trans rfl;have hcz196_5:w195.cell? ⟨gb182,5,none⟩=some (.int .i64 a0_5):=(blk_cell BK182.out 5).trans rfl;have hfz196_0:=blk_frozen BK182.out 0;have hfz196_1:=blk_frozen BK182.out 1;have hfz196_2:=blk_frozen BK182.out 2;have hfz196_3:=blk_frozen BK182.out 3;have hfz196_4:=blk_frozen BK182.out 4;have hfz196_5:=blk_frozen BK182.out 5) | (go_at_call 42;(with_reducible refine (Y6.calls kj18 a0_4 true _ A180.out).mono ?_);rintro e w' ⟨rfl,⟨nd,rfl⟩⟩))
                go_ret
                exact ⟨by first | rfl | (simp [errW_none,errW_some] <;> rfl) | (simp only [← hji16];first | rfl | (simp [errW_none,errW_some] <;> rfl)) | (simp [*,errW_none,errW_some] <;> rfl),by repeat (first | (with_reducible first | exact HB.out | apply below_alloc | apply pw_below_drewN | apply below_drew1 | refine below_set ?_ GE182.out | refine below_set ?_ GE190.out) | exact HB.out)⟩
               ·replace c190:=Bool.eq_false_iff.mpr c190
                subst c190
                exact absurd (Option.some.inj (A178.out.symm.trans A189.out)) (by decide)
             ·replace c181:=Bool.eq_false_iff.mpr c181
              subst c181
              have H1:((Y0.f kj18 (⟨#[68]⟩:ByteArray) ((rd_T50 t186 (ji16)).f1)).bind fun t212=>(if t212=true then (some false) else (some (a0_4.toList == ([]:List UInt8)))))=some r:=by rw [if_neg (show ¬ (false=true) by decide)] at H;exact H
              clear H
              have H:=H1
              clear H1
              replace H:=Option.bind_eq_some_iff.mp H
              obtain ⟨t212,A2060,H⟩:=H
              replace H:(if t212=true then (some false) else (some (a0_4.toList == ([]:List UInt8))))=some r:=H
              have A206:=Aside0.mk A2060
              clear A2060
              by_cases c207:t212=true
              ·subst c207
               have H1:(some false)=some r:=by rw [if_pos rfl] at H;exact H
               clear H
               have H:=H1
               clear H1
               obtain rfl:=Option.some.inj H
               go_wp2_with (first | (go_at_call 39;(with_reducible refine (Y0.calls kj18 (⟨#[75]⟩:ByteArray) gb190 ((rd_T50 t186 (ji16)).f1) false _ ?side1 A37.out).mono ?_);(case side1=>(with_reducible repeat (first | refine blk_drewN ?_ _ | refine blk_drew ?_ | refine blk_alloc ?_ _));exact BK190.out);rintro e w208 ⟨rfl,hb⟩;have n0_:=Aside0.mk (blk_below (g:=gb182) (o:=.cells #[.int .i64 a0_0,.int .i64 a0_1,.int .i64 a0_2,.string a0_3,.string a0_4,.int .i64 a0_5] 23 (0,0)) (by (with_reducible repeat (first | refine blk_drewN ?_ _ | refine blk_drew ?_ | refine blk_alloc ?_ _));exact BK182.out) hb);have n1_:=Aside0.mk (blk_below (g:=gb190) (o:=.cells #[.string ((rd_T50 t186 (ji16)).f1)] 9 (0,0)) (by (with_reducible repeat (first | refine blk_drewN ?_ _ | refine blk_drew ?_ | refine blk_alloc ?_ _));exact BK190.out) hb);have n2_:=Aside0.mk (below_step (by repeat (first | (with_reducible first | exact HB.out | apply below_alloc | apply pw_below_drewN | apply below_drew1 | refine below_set ?_ GE182.out | refine below_set ?_ GE190.out) | exact HB.out)) hb);clear BK182;clear BK190;clear HB;have BK182:=n0_;have BK190:=n1_;have HB:=n2_;clear n0_ n1_ n2_;(try clear hb);(try clear hb2);(try clear hk);(try clear hi);have hnb210:=NB182_190.out;have hnc210:=NB190_182.out;have hcz211_0:w208.cell? ⟨gb182,0,none⟩=some (.int .i64 a0_0):=(blk_cell BK182.out 0).trans rfl;have hcz211_1:w208.cell? ⟨gb182,1,none⟩=some (.int .i64 a0_1):=(blk_cell BK182.out 1).trans rfl;have hcz211_2:w208.cell? ⟨gb182,2,none⟩=some (.int .i64 a0_2):=(blk_cell BK182.out 2).trans rfl;have hcz211_3:w208.cell? ⟨gb182,3,none⟩=some (.string a0_3):=(blk_cell BK182.out 3).trans rfl;have hcz211_4:w208.cell? ⟨gb182,4,none⟩=some (.string a0_4):=(blk_cell BK182.out 4).trans rfl;have hcz211_5:w208.cell? ⟨gb182,5,none⟩=some (.int .i64 a0_5):=(blk_cell BK182.out 5).trans rfl;have hfz211_0:=blk_frozen BK182.out 0;have hfz211_1:=blk_frozen BK182.out 1;have hfz211_2:=blk_frozen BK182.out 2;have hfz211_3:=blk_frozen BK182.out 3;have hfz211_4:=blk_frozen BK182.out 4;have hfz211_5:=blk_frozen BK182.out 5) | (go_at_call 39;(with_reducible refine (Y0.calls kj18 (⟨#[68]⟩:ByteArray) gb190 ((rd_T50 t186 (ji16)).f1) true _ ?side1 A178.out).mono ?_);(case side1=>(with_reducible repeat (first | refine blk_drewN ?_ _ | refine blk_drew ?_ | refine blk_alloc ?_ _));exact BK190.out);rintro e w212 ⟨rfl,hb⟩;have n0_:=Aside0.mk (blk_below (g:=gb182) (o:=.cells #[.int .i64 a0_0,.int .i64 a0_1,.int .i64 a0_2,.string a0_3,.string a0_4,.int .i64 a0_5] 23 (0,0)) (by (with_reducible repeat (first | refine blk_drewN ?_ _ | refine blk_drew ?_ | refine blk_alloc ?_ _));exact BK182.out) hb);have n1_:=Aside0.mk (blk_below (g:=gb190) (o:=.cells #[.string ((rd_T50 t186 (ji16)).f1)] 9 (0,0)) (by (with_reducible repeat (first | refine blk_drewN ?_ _ | refine blk_drew ?_ | refine blk_alloc ?_ _));exact BK190.out) hb);have n2_:=Aside0.mk (below_step (by repeat (first | (with_reducible first | exact HB.out | apply below_alloc | apply pw_below_drewN | apply below_drew1 | refine below_set ?_ GE182.out | refine below_set ?_ GE190.out) | exact HB.out)) hb);clear BK182;clear BK190;clear HB;have BK182:=n0_;have BK190:=n1_;have HB:=n2_;clear n0_ n1_ n2_;(try clear hb);(try clear hb2);(try clear hk);(try clear hi);have hcz213_0:w212.cell? ⟨gb182,0,none⟩=some (.int .i64 a0_0):=(blk_cell BK182.out 0).trans rfl;have hcz213_1:w212.cell? ⟨gb182,1,none⟩=some (.int .i64 a0_1):=(blk_cell BK182.out 1).trans rfl;have hcz213_2:w212.cell? ⟨gb182,2,none⟩=some (.int .i64 a0_2):=(blk_cell BK182.out 2).trans rfl;have hcz213_3:w212.cell? ⟨gb182,3,none⟩=some (.string a0_3):=(blk_cell BK182.out 3).trans rfl;have hcz213_4:w212.cell? ⟨gb182,4,none⟩=some (.string a0_4):=(blk_cell BK182.out 4).trans rfl;have hcz213_5:w212.cell? ⟨gb182,5,none⟩=some (.int .i64 a0_5):=(blk_cell BK182.out 5).trans rfl;have hfz213_0:=blk_frozen BK182.out 0;have hfz213_1:=blk_frozen BK182.out 1;have hfz213_2:=blk_frozen BK182.out 2;have hfz213_3:=blk_frozen BK182.out 3;have hfz213_4:=blk_frozen BK182.out 4;have hfz213_5:=blk_frozen BK182.out 5) | (go_at_call 42;(with_reducible refine (Y6.calls kj18 a0_4 false _ A180.out).mono ?_);rintro e w' ⟨rfl,⟨nd,rfl⟩⟩))
               go_ret
               exact ⟨by first | rfl | (simp [errW_none,errW_some] <;> rfl) | (simp only [← hji16];first | rfl | (simp [errW_none,errW_some] <;> rfl)) | (simp [*,errW_none,errW_some] <;> rfl),by repeat (first | (with_reducible first | exact HB.out | apply below_alloc | apply pw_below_drewN | apply below_drew1 | refine below_set ?_ GE182.out | refine below_set ?_ GE190.out) | exact HB.out)⟩
              ·replace c207:=Bool.eq_false_iff.mpr c207
               subst c207
               exact absurd (Option.some.inj (A178.out.symm.trans A206.out)) (by decide)
            ·replace c179:=Bool.eq_false_iff.mpr c179
             subst c179
             have H1:((Y0.f kj18 (⟨#[68]⟩:ByteArray) ((rd_T50 t186 (ji16)).f1)).bind fun t213=>(if t213=true then (some false) else (some (a0_4.toList == ([]:List UInt8)))))=some r:=by rw [if_neg (show ¬ (false=true) by decide)] at H;exact H
             clear H
             have H:=H1
             clear H1
             replace H:=Option.bind_eq_some_iff.mp H
             obtain ⟨t213,A2230,H⟩:=H
             replace H:(if t213=true then (some false) else (some (a0_4.toList == ([]:List UInt8))))=some r:=H
             have A223:=Aside0.mk A2230
             clear A2230
             by_cases c224:t213=true
             ·subst c224
              exact absurd (Option.some.inj (A223.out.symm.trans A178.out)) (by decide)
             ·replace c224:=Bool.eq_false_iff.mpr c224
              subst c224
              have H1:(some (a0_4.toList == ([]:List UInt8)))=some r:=by rw [if_neg (show ¬ (false=true) by decide)] at H;exact H
              clear H
              have H:=H1
              clear H1
              obtain rfl:=Option.some.inj H
              go_wp2_with (first | (go_at_call 39;(with_reducible refine (Y0.calls kj18 (⟨#[75]⟩:ByteArray) gb190 ((rd_T50 t186 (ji16)).f1) false _ ?side1 A37.out).mono ?_);(case side1=>(with_reducible repeat (first | refine blk_drewN ?_ _ | refine blk_drew ?_ | refine blk_alloc ?_ _));exact BK190.out);rintro e w231 ⟨rfl,hb⟩;have n0_:=Aside0.mk (blk_below (g:=gb182) (o:=.cells #[.int .i64 a0_0,.int .i64 a0_1,.int .i64 a0_2,.string a0_3,.string a0_4,.int .i64 a0_5] 23 (0,0)) (by (with_reducible repeat (first | refine blk_drewN ?_ _ | refine blk_drew ?_ | refine blk_alloc ?_ _));exact BK182.out) hb);have n1_:=Aside0.mk (blk_below (g:=gb190) (o:=.cells #[.string ((rd_T50 t186 (ji16)).f1)] 9 (0,0)) (by (with_reducible repeat (first | refine blk_drewN ?_ _ | refine blk_drew ?_ | refine blk_alloc ?_ _));exact BK190.out) hb);have n2_:=Aside0.mk (below_step (by repeat (first | (with_reducible first | exact HB.out | apply below_alloc | apply pw_below_drewN | apply below_drew1 | refine below_set ?_ GE182.out | refine below_set ?_ GE190.out) | exact HB.out)) hb);clear BK182;clear BK190;clear HB;have BK182:=n0_;have BK190:=n1_;have HB:=n2_;clear n0_ n1_ n2_;(try clear hb);(try clear hb2);(try clear hk);(try clear hi);have hnb233:=NB182_190.out;have hnc233:=NB190_182.out;have hcz234_0:w231.cell? ⟨gb182,0,none⟩=some (.int .i64 a0_0):=(blk_cell BK182.out 0).trans rfl;have hcz234_1:w231.cell? ⟨gb182,1,none⟩=some (.int .i64 a0_1):=(blk_cell BK182.out 1).trans rfl;have hcz234_2:w231.cell? ⟨gb182,2,none⟩=some (.int .i64 a0_2):=(blk_cell BK182.out 2).trans rfl;have hcz234_3:w231.cell? ⟨gb182,3,none⟩=some (.string a0_3):=(blk_cell BK182.out 3).trans rfl;have hcz234_4:w231.cell? ⟨gb182,4,none⟩=some (.string a0_4):=(blk_cell BK182.out 4).trans rfl;have hcz234_5:w231.cell? ⟨gb182,5,none⟩=some (.int .i64 a0_5):=(blk_cell BK182.out 5).trans rfl;have hfz234_0:=blk_frozen BK182.out 0;have hfz234_1:=blk_frozen BK182.out 1;have hfz234_2:=blk_frozen BK182.out 2;have hfz234_3:=blk_frozen BK182.out 3;have hfz234_4:=blk_frozen BK182.out 4;have hfz234_5:=blk_frozen BK182.out 5) | (go_at_call 39;(with_reducible refine (Y0.calls kj18 (⟨#[68]⟩:ByteArray) gb190 ((rd_T50 t186 (ji16)).f1) false _ ?side1 A178.out).mono ?_);(case side1=>(with_reducible repeat (first | refine blk_drewN ?_ _ | refine blk_drew ?_ | refine blk_alloc ?_ _));exact BK190.out);rintro e w235 ⟨rfl,hb⟩;have n0_:=Aside0.mk (blk_below (g:=gb182) (o:=.cells #[.int .i64 a0_0,.int .i64 a0_1,.int .i64 a0_2,.string a0_3,.string a0_4,.int .i64 a0_5] 23 (0,0)) (by (with_reducible repeat (first | refine blk_drewN ?_ _ | refine blk_drew ?_ | refine blk_alloc ?_ _));exact BK182.out) hb);have n1_:=Aside0.mk (blk_below (g:=gb190) (o:=.cells #[.string ((rd_T50 t186 (ji16)).f1)] 9 (0,0)) (by (with_reducible repeat (first | refine blk_drewN ?_ _ | refine blk_drew ?_ | refine blk_alloc ?_ _));exact BK190.out) hb);have n2_:=Aside0.mk (below_step (by repeat (first | (with_reducible first | exact HB.out | apply below_alloc | apply pw_below_drewN | apply below_drew1 | refine below_set ?_ GE182.out | refine below_set ?_ GE190.out) | exact HB.out)) hb);clear BK182;clear BK190;clear HB;have BK182:=n0_;have BK190:=n1_;have HB:=n2_;clear n0_ n1_ n2_;(try clear hb);(try clear hb2);(try clear hk);(try clear hi);have hcz237_0:w235.cell? ⟨gb182,0,none⟩=some (.int .i64 a0_0):=(blk_cell BK182.out 0).trans rfl;have hcz237_1:w235.cell? ⟨gb182,1,none⟩=some (.int .i64 a0_1):=(blk_cell BK182.out 1).trans rfl;have hcz237_2:w235.cell? ⟨gb182,2,none⟩=some (.int .i64 a0_2):=(blk_cell BK182.out 2).trans rfl;have hcz237_3:w235.cell? ⟨gb182,3,none⟩=some (.string a0_3):=(blk_cell BK182.out 3).trans rfl;have hcz237_4:w235.cell? ⟨gb182,4,none⟩=some (.string a0_4):=(blk_cell BK182.out 4).trans rfl;have hcz237_5:w235.cell? ⟨gb182,5,none⟩=some (.int .i64 a0_5):=(blk_cell BK182.out 5).trans rfl;have hfz237_0:=blk_frozen BK182.out 0;have hfz237_1:=blk_frozen BK182.out 1;have hfz237_2:=blk_frozen BK182.out 2;have hfz237_3:=blk_frozen BK182.out 3;have hfz237_4:=blk_frozen BK182.out 4;have hfz237_5:=blk_frozen BK182.out 5))
              go_ret
              exact ⟨by first | rfl | (simp [errW_none,errW_some] <;> rfl) | (simp only [← hji16];first | rfl | (simp [errW_none,errW_some] <;> rfl)) | (simp [*,errW_none,errW_some] <;> rfl),by repeat (first | (with_reducible first | exact HB.out | apply below_alloc | apply pw_below_drewN | apply below_drew1 | refine below_set ?_ GE182.out | refine below_set ?_ GE190.out) | exact HB.out)⟩
           ·rw [if_neg c177] at H
            have c177b0:(a0_3.toList == ([]:List UInt8))=false:=beq_eq_false_iff_ne.mpr c177
            have c177b1:(a0_3.toList != ([]:List UInt8))=true:=bne_iff_ne.mpr c177
            obtain rfl:=Option.some.inj H
            go_wp2_with (first | (go_at_call 39;(with_reducible refine (Y0.calls kj18 (⟨#[75]⟩:ByteArray) gb190 ((rd_T50 t186 (ji16)).f1) false _ ?side1 A37.out).mono ?_);(case side1=>(with_reducible repeat (first | refine blk_drewN ?_ _ | refine blk_drew ?_ | refine blk_alloc ?_ _));exact BK190.out);rintro e w238 ⟨rfl,hb⟩;have n0_:=Aside0.mk (blk_below (g:=gb182) (o:=.cells #[.int .i64 a0_0,.int .i64 a0_1,.int .i64 a0_2,.string a0_3,.string a0_4,.int .i64 a0_5] 23 (0,0)) (by (with_reducible repeat (first | refine blk_drewN ?_ _ | refine blk_drew ?_ | refine blk_alloc ?_ _));exact BK182.out) hb);have n1_:=Aside0.mk (blk_below (g:=gb190) (o:=.cells #[.string ((rd_T50 t186 (ji16)).f1)] 9 (0,0)) (by (with_reducible repeat (first | refine blk_drewN ?_ _ | refine blk_drew ?_ | refine blk_alloc ?_ _));exact BK190.out) hb);have n2_:=Aside0.mk (below_step (by repeat (first | (with_reducible first | exact HB.out | apply below_alloc | apply pw_below_drewN | apply below_drew1 | refine below_set ?_ GE182.out | refine below_set ?_ GE190.out) | exact HB.out)) hb);clear BK182;clear BK190;clear HB;have BK182:=n0_;have BK190:=n1_;have HB:=n2_;clear n0_ n1_ n2_;(try clear hb);(try clear hb2);(try clear hk);(try clear hi);have hnb240:=NB182_190.out;have hnc240:=NB190_182.out;have hcz241_0:w238.cell? ⟨gb182,0,none⟩=some (.int .i64 a0_0):=(blk_cell BK182.out 0).trans rfl;have hcz241_1:w238.cell? ⟨gb182,1,none⟩=some (.int .i64 a0_1):=(blk_cell BK182.out 1).trans rfl;have hcz241_2:w238.cell? ⟨gb182,2,none⟩=some (.int .i64 a0_2):=(blk_cell BK182.out 2).trans rfl;have hcz241_3:w238.cell? ⟨gb182,3,none⟩=some (.string a0_3):=(blk_cell BK182.out 3).trans rfl;have hcz241_4:w238.cell? ⟨gb182,4,none⟩=some (.string a0_4):=(blk_cell BK182.out 4).trans rfl;have hcz241_5:w238.cell? ⟨gb182,5,none⟩=some (.int .i64 a0_5):=(blk_cell BK182.out 5).trans rfl;have hfz241_0:=blk_frozen BK182.out 0;have hfz241_1:=blk_frozen BK182.out 1;have hfz241_2:=blk_frozen BK182.out 2;have hfz241_3:=blk_frozen BK182.out 3;have hfz241_4:=blk_frozen BK182.out 4;have hfz241_5:=blk_frozen BK182.out 5))
            go_ret
            exact ⟨by first | rfl | (simp [errW_none,errW_some] <;> rfl) | (simp only [← hji16];first | rfl | (simp [errW_none,errW_some] <;> rfl)) | (simp [*,errW_none,errW_some] <;> rfl),by repeat (first | (with_reducible first | exact HB.out | apply below_alloc | apply pw_below_drewN | apply below_drew1 | refine below_set ?_ GE182.out | refine below_set ?_ GE190.out) | exact HB.out)⟩
     ·rw [if_neg c18] at H
      exact absurd H (by simp)
    ·rw [if_neg c17] at H
     exact absurd H (by simp)


/-! ### Y18: function 26 -/
def Y18.g (a1 a2:Int) (a3 a4:ByteArray):List UInt8→ByteArray→Option ByteArray
 | [],o=>some o
 | c :: cs,o=>(if c=65 then Y27.f a1 else if c=66 then Y27.f a2 else if c=75 then some a3 else some a4).bind fun d=>if 1+d.size≤9223372036854775807 then (if o.size+(1+d.size)≤9223372036854775807 then Y18.g a1 a2 a3 a4 cs (o ++ ((⟨#[32]⟩:ByteArray) ++ d)) else none) else none
def Y18.s (a5:Int) (x:ByteArray):Option ByteArray:=if a5=(-1) then some x else ((Y27.f a5).bind fun d=>(if 1+d.size≤9223372036854775807 then (if (1+d.size)+1≤9223372036854775807 then (if ((1+d.size)+1)+x.size≤9223372036854775807 then (some ((((⟨#[33]⟩:ByteArray) ++ d) ++ (⟨#[32]⟩:ByteArray)) ++ x)) else none) else none) else none))
def Y18.f (a0_0:Int) (a0_1:Int) (a0_2:Int) (a0_3:ByteArray) (a0_4:ByteArray) (a0_5:Int):Option ByteArray:=(Y20.f).bind fun t187=>(if 0≤(wrap64 (a0_0-1)) then (if (wrap64 (a0_0-1))<(t187.length:Int) then (if (∀ b ∈ ((rd_T50 t187 (wrap64 (a0_0-1))).f1).data.toList,b.toNat<128) then ((Y18.s a0_5 ((rd_T50 t187 (wrap64 (a0_0-1))).f0)).bind fun x=>Y18.g a0_1 a0_2 a0_3 a0_4 ((rd_T50 t187 (wrap64 (a0_0-1))).f1).data.toList x) else none) else none) else none)
def Y18.T1:Bool × List (List Nat × List Nat):=(true,[([],[]),([],[]),([1],[1]),([2],[2]),([0,3],[0,3]),([4],[4]),([],[]),([6,5,0,0,1,2,3,4,5,6],[5,6])])
def Y18.B1:List Nat:=[0,0,2,6,15,31,0,127]
theorem Y18.tab1:rtab .any (opsOf Tryd.f26 1)=Y18.T1:=by kernel_rfl
theorem Y18.bits1:waitsOk Y18.T1.2 Y18.B1=true:=by kernel_rfl
set_option maxHeartbeats 8000000 in
set_option maxRecDepth 100000 in
theorem Y18.calls (a0_0:Int) (a0_1:Int) (a0_2:Int) (a0_3:ByteArray) (a0_4:ByteArray) (a0_5:Int) (r:ByteArray) (w:World) (h:Y18.f a0_0 a0_1 a0_2 a0_3 a0_4 a0_5=some r) (htab:Tab_ w) :
  Calls Tryd.prog 26 #[.agg #[.int .i64 a0_0,.int .i64 a0_1,.int .i64 a0_2,.string a0_3,.string a0_4,.int .i64 a0_5]] w fun e w'=>e = .returned (.string r)∧Below w.heap.size w w':=by
 have hu26:=Tryd.underlying23
 have hu63:=Tryd.underlying50
 have hu9:=Tryd.underlying9
 have HB:=Aside0.mk (Below.refl w.heap.size w)
 unfold Y18.f at h
 obtain ⟨t187,A20,H⟩:=Option.bind_eq_some_iff.mp h
 clear h
 have A2:=Aside0.mk A20
 clear A20
 obtain ⟨ji3,hji3⟩:∃ j_:Int,(wrap64 (a0_0-1))=j_:=⟨_,rfl⟩
 rw [hji3] at H
 have hji3w:(IntKind.i64.wrap (a0_0-1))=ji3:=(i64_w _).trans hji3
 by_cases c4:0≤(ji3)
 case neg=>rw [if_neg c4] at H;cases H
 rw [if_pos c4] at H
 by_cases c5:(ji3)<(t187.length:Int)
 case neg=>rw [if_neg c5] at H;cases H
 rw [if_pos c5] at H
 by_cases c6:∀ b ∈ (((rd_T50 t187 (ji3)).f1)).data.toList,b.toNat<128
 case neg=>rw [if_neg c6] at H;cases H
 rw [if_pos c6] at H
 obtain ⟨x0,AX0,AG0⟩:=Option.bind_eq_some_iff.mp H
 clear H
 have AS:=Aside0.mk c6
 have AX:=Aside0.mk AX0
 have AG:=Aside0.mk AG0
 clear c6 AX0 AG0
 go_enter Tryd.func26,Tryd.ntmps26
 go_upto_region 1 with (first | ((with_reducible refine gate_dst (N:=1) rfl ?_);(try (refine gate_guard (by rfl) ?_;dsimp only));refine box_event ?hg (N:=1) ?hd (cs:=#[.int .i64 a0_0,.int .i64 a0_1,.int .i64 a0_2,.string a0_3,.string a0_4,.int .i64 a0_5]) (t:=23) ?hr ?_;(case hd=>rfl);(case hg=>rfl);(case hr=>first | (go_simp;done) | (go_simp;rfl));intro gb186 hg w7 hbox hb;have n0_:=Aside0.mk (below_step HB.out hb);have n1_:=Aside0.mk (hbox);have n2_:=Aside0.mk ((by rw [hg];exact Nat.le_refl _):w.heap.size≤gb186);clear HB;have HB:=n0_;have BK186:=n1_;have GE186:=n2_;clear n0_ n1_ n2_;clear hb hbox hg))
 (try simp only [Act.put,sa_,s0_,ss_])
 go_cut [3] (fun v3 wc=>∃ (gf:Nat),v3 = .pointer (some ⟨gf,0,none⟩)∧Aside0 (wc.heap[gb186]? = some (.cells #[.int .i64 a0_0,.int .i64 a0_1,.int .i64 a0_2,.string a0_3,.string a0_4,.int .i64 a0_5] 23 (0,0)))∧Aside0 (wc.heap[gf]? = some (.cells #[.string ((rd_T50 t187 (ji3)).f0),.string ((rd_T50 t187 (ji3)).f1)] 50 (0,0)))∧Aside0 (Below w.heap.size w wc))
 case first=>as_aux_lemma =>
  clear AX AG AS
  have n0_:=Aside0.mk (blk_drew BK186.out)
  have n1_:=Aside0.mk (below_drew1 HB.out)
  clear BK186 HB
  have BK186:=n0_
  have HB:=n1_
  clear n0_ n1_
  refine start_ (n:=8) (S:=fun w'=>w'.cell? ⟨gb186,0,none⟩=some (.int .i64 a0_0)) (ds:=[]) #[false,false,false,false,false,false,false,false] (by kernel_rfl) rfl rfl ((blk_cell BK186.out 0).trans rfl) (fun hHeld=>?_);refine with_tabW Y18.tab1 Y18.bits1 (fun HT_ HW_=>?_)
  generalize w7.drew=w8 at BK186 HB hHeld ⊢
  refine pure_ (i:=1) (N:=some 8) (v:=?_) (a':=?_) #[false,true,false,false,false,false,false,false] rfl rfl (any_of HT_.out (by kernel_rfl)) (fun _ _ _ h=>h) (Or.inl ⟨by rfl,?_⟩) ?_ ?_
  rotate_left
  ·intro w'
   go_simp
   with_reducible rfl
  rotate_left
  ·simp only [Act.put,sa_,s0_,ss_,i64_w,i32_w]
   rfl
  refine take_ (i:=2) (N:=some 9) (v:=?_) (a':=?_) #[false,true,true,false,false,false,false,false] rfl rfl (take_ofW HT_.out HW_.out (by kernel_rfl)) (fun _ _ _ h=>h) (Or.inl ⟨by rfl,?_⟩) hHeld ?_ ?_
  rotate_left
  ·rintro w' s0
   go_simp
   with_reducible rfl
  rotate_left
  ·simp only [Act.put,sa_,s0_,ss_,i64_w,i32_w]
   rfl
  refine pure_ (i:=3) (N:=some 10) (v:=?_) (a':=?_) #[false,true,true,true,false,false,false,false] rfl rfl (any_of HT_.out (by kernel_rfl)) (fun _ _ _ h=>h) (Or.inl ⟨by rfl,?_⟩) ?_ ?_
  rotate_left
  ·intro w'
   go_simp
   with_reducible rfl
  rotate_left
  ·simp only [Act.put,sa_,s0_,ss_,i64_w,i32_w]
   rfl
  refine two_ (i:=0) (j:=6) (Ni:=some 7) (Nj:=some 3) #[true,true,true,true,false,false,false,false] #[false,true,true,true,false,false,true,false] rfl rfl rfl rfl (two_of HT_.out (by kernel_rfl)) (by decide) (by decide) (fun K hK=>?_) (fun K hK=>?_)
  ·skip
   refine goes_ Tryd.func23 (by kernel_rfl) rfl #[] (by rfl) rfl rfl (by (try simp only [List.map_toArray,List.map_cons,List.map_nil]);first | done | rfl | (simp only [List.length_drop,List.length_take];rfl)) ?_
   with_reducible refine (Y20.calls  t187 _ A2.out).mono ?_
   rintro e w9 ⟨v188,rfl,ho0,hb⟩
   refine ⟨_,rfl,?_⟩
   have n1_:=Aside0.mk (blk_below BK186.out hb)
   have n2_:=Aside0.mk (below_step HB.out hb)
   clear BK186 HB hHeld
   have BK186:=n1_
   have HB:=n2_
   clear n1_ n2_ hb
   obtain ⟨Ao10,co10,eo10⟩:=Kd.R_slice ho0
   (first | subst eo10 | (injection eo10 with f1_ f2_ f3_;have f4_:=f1_.symm;have f5_:=f3_.symm;clear f1_ f2_ f3_;subst f4_;subst f5_))
   have p190:=c4
   have q190:=c5
   obtain ⟨ad190,e190,hx190_0,hx190_1⟩:=at_T50 (Kd.R_reads' ho0).2.2 (ji3) p190 q190
   cases e190
   replace p190:=eq_true p190
   replace q190:=eq_true q190
   clear ho0
   refine hK.out _ _ ((blk_cell BK186.out 0).trans rfl) (fun hHeld=>?_)
   clear hK K
   refine norm_ (a':=?_) ?_ ?_
   rotate_left
   ·show Act.put _ (some 7) _=_
    simp only [Act.put,sa_,s0_,ss_,i64_w,i32_w]
    rfl
   refine pure_ (i:=4) (N:=some 11) (v:=?_) (a':=?_) #[true,true,true,true,true,false,false,false] rfl rfl (any_of HT_.out (by kernel_rfl)) (fun _ _ _ h=>h) (Or.inl ⟨by rfl,?_⟩) ?_ ?_
   rotate_left
   ·intro w'
    go_simp
    with_reducible rfl
   rotate_left
   ·simp only [Act.put,sa_,s0_,ss_,i64_w,i32_w]
    rfl
   refine two_ (i:=5) (j:=6) (Ni:=some 12) (Nj:=some 3) #[true,true,true,true,true,true,false,false] #[true,true,true,true,true,false,true,false] rfl rfl rfl rfl (two_of HT_.out (by kernel_rfl)) (by decide) (by decide) (fun K hK=>?_) (fun K hK=>?_)
   ·skip
    refine value_ (w1:=w9) (v:=.agg #[.string ((rd_T50 t187 (ji3)).f0),.string ((rd_T50 t187 (ji3)).f1)]) (by rfl) rfl ?_ ?_
    ·go_simp
    refine hK.out _ _ ((blk_cell BK186.out 0).trans rfl) (fun hHeld=>?_)
    clear hK K
    refine norm_ (a':=?_) ?_ ?_
    rotate_left
    ·show Act.put _ (some 12) _=_
     simp only [Act.put,sa_,s0_,ss_,i64_w,i32_w]
     rfl
    refine one_ (i:=6) (N:=some 3) #[true,true,true,true,true,true,true,false] rfl rfl (one_of HT_.out (by kernel_rfl)) (by decide) (fun K hK=>?_)
    refine box_step ?hg (N:=3) ?hd (cs:=#[.string (⟨#[]⟩:ByteArray),.string (⟨#[]⟩:ByteArray)]) (t:=50) ?hr ?_;(case hd=>rfl);(case hg=>rfl);(case hr=>first | (go_simp;done) | (go_simp;rfl))
    intro gf hg w10 hbox hb
    have n1_:=Aside0.mk (blk_below BK186.out hb)
    have n2_:=Aside0.mk (below_step HB.out hb)
    have GEF:=Aside0.mk ((by rw [hg];exact below_size HB.out):w.heap.size≤gf)
    have NEF:=Aside0.mk ((by rw [hg];exact Nat.ne_of_lt (blk_lt BK186.out)):gb186≠gf)
    have BKF:=Aside0.mk hbox
    clear BK186 HB hHeld hb hbox hg
    have BK186:=n1_
    have HB:=n2_
    clear n1_ n2_
    refine hK.out _ _ ((blk_cell BK186.out 0).trans rfl) (fun hHeld=>?_)
    clear hK K
    refine norm_ (a':=?_) ?_ ?_
    rotate_left
    ·show Act.put _ (some 3) _=_
     simp only [Act.put,sa_,s0_,ss_,i64_w,i32_w]
     rfl
    refine one_ (i:=7) (N:=none) #[true,true,true,true,true,true,true,true] rfl rfl (one_of HT_.out (by kernel_rfl)) (by decide) (fun K hK=>?_)
    have hs12:w10.cell? ⟨gf,0,none⟩=some (.string (⟨#[]⟩:ByteArray)):=(blk_cell BKF.out 0).trans rfl
    have hfs12:=blk_frozen BKF.out 0
    have hs13:w10.cell? ⟨gf,1,none⟩=some (.string (⟨#[]⟩:ByteArray)):=(blk_cell BKF.out 1).trans rfl
    have hfs13:=blk_frozen BKF.out 1
    refine skip_ (w1:=?_) (by rfl) rfl ?_ ?_
    rotate_left
    ·go_simp
     rfl
    refine hK.out _ _ ((cell_far (p:=⟨gf,_,none⟩) NEF.out _).trans ((cell_far (p:=⟨gf,_,none⟩) NEF.out _).trans hHeld)) (fun hHeld=>?_)
    clear hK K
    refine done_ (done_of HT_.out (by kernel_rfl)) ?_
    try go_wp2
    go_meet
    case rel=>exact ⟨gf,rfl,⟨blk_far (blk_far BK186.out NEF.out _) NEF.out _⟩,⟨blk_put (cs':=#[.string ((rd_T50 t187 (ji3)).f0),.string ((rd_T50 t187 (ji3)).f1)]) (blk_put (cs':=#[.string ((rd_T50 t187 (ji3)).f0),.string (⟨#[]⟩:ByteArray)]) BKF.out 0 _ rfl) 1 _ rfl⟩,⟨below_set (below_set HB.out GEF.out) GEF.out⟩⟩
   ·skip
    refine box_step ?hg (N:=3) ?hd (cs:=#[.string (⟨#[]⟩:ByteArray),.string (⟨#[]⟩:ByteArray)]) (t:=50) ?hr ?_;(case hd=>rfl);(case hg=>rfl);(case hr=>first | (go_simp;done) | (go_simp;rfl))
    intro gf hg w10 hbox hb
    have n1_:=Aside0.mk (blk_below BK186.out hb)
    have n2_:=Aside0.mk (below_step HB.out hb)
    have GEF:=Aside0.mk ((by rw [hg];exact below_size HB.out):w.heap.size≤gf)
    have NEF:=Aside0.mk ((by rw [hg];exact Nat.ne_of_lt (blk_lt BK186.out)):gb186≠gf)
    have BKF:=Aside0.mk hbox
    have hy190_0:=(hb.cell (World.block_lt_of_cell? _ _ hx190_0)).trans hx190_0
    have hy190_1:=(hb.cell (World.block_lt_of_cell? _ _ hx190_1)).trans hx190_1
    clear hx190_0 hx190_1
    have hx190_0:=hy190_0
    have hx190_1:=hy190_1
    clear hy190_0 hy190_1
    clear BK186 HB hHeld hb hbox hg
    have BK186:=n1_
    have HB:=n2_
    clear n1_ n2_
    refine hK.out _ _ ((blk_cell BK186.out 0).trans rfl) (fun hHeld=>?_)
    clear hK K
    refine norm_ (a':=?_) ?_ ?_
    rotate_left
    ·show Act.put _ (some 3) _=_
     simp only [Act.put,sa_,s0_,ss_,i64_w,i32_w]
     rfl
    refine one_ (i:=5) (N:=some 12) #[true,true,true,true,true,true,true,false] rfl rfl (one_of HT_.out (by kernel_rfl)) (by decide) (fun K hK=>?_)
    refine value_ (w1:=w10) (v:=.agg #[.string ((rd_T50 t187 (ji3)).f0),.string ((rd_T50 t187 (ji3)).f1)]) (by rfl) rfl ?_ ?_
    ·go_simp
    refine hK.out _ _ ((blk_cell BK186.out 0).trans rfl) (fun hHeld=>?_)
    clear hK K
    refine norm_ (a':=?_) ?_ ?_
    rotate_left
    ·show Act.put _ (some 12) _=_
     simp only [Act.put,sa_,s0_,ss_,i64_w,i32_w]
     rfl
    refine one_ (i:=7) (N:=none) #[true,true,true,true,true,true,true,true] rfl rfl (one_of HT_.out (by kernel_rfl)) (by decide) (fun K hK=>?_)
    have hs12:w10.cell? ⟨gf,0,none⟩=some (.string (⟨#[]⟩:ByteArray)):=(blk_cell BKF.out 0).trans rfl
    have hfs12:=blk_frozen BKF.out 0
    have hs13:w10.cell? ⟨gf,1,none⟩=some (.string (⟨#[]⟩:ByteArray)):=(blk_cell BKF.out 1).trans rfl
    have hfs13:=blk_frozen BKF.out 1
    refine skip_ (w1:=?_) (by rfl) rfl ?_ ?_
    rotate_left
    ·go_simp
     rfl
    refine hK.out _ _ ((cell_far (p:=⟨gf,_,none⟩) NEF.out _).trans ((cell_far (p:=⟨gf,_,none⟩) NEF.out _).trans hHeld)) (fun hHeld=>?_)
    clear hK K
    refine done_ (done_of HT_.out (by kernel_rfl)) ?_
    try go_wp2
    go_meet
    case rel=>exact ⟨gf,rfl,⟨blk_far (blk_far BK186.out NEF.out _) NEF.out _⟩,⟨blk_put (cs':=#[.string ((rd_T50 t187 (ji3)).f0),.string ((rd_T50 t187 (ji3)).f1)]) (blk_put (cs':=#[.string ((rd_T50 t187 (ji3)).f0),.string (⟨#[]⟩:ByteArray)]) BKF.out 0 _ rfl) 1 _ rfl⟩,⟨below_set (below_set HB.out GEF.out) GEF.out⟩⟩
  ·skip
   refine box_step ?hg (N:=3) ?hd (cs:=#[.string (⟨#[]⟩:ByteArray),.string (⟨#[]⟩:ByteArray)]) (t:=50) ?hr ?_;(case hd=>rfl);(case hg=>rfl);(case hr=>first | (go_simp;done) | (go_simp;rfl))
   intro gf hg w9 hbox hb
   have n1_:=Aside0.mk (blk_below BK186.out hb)
   have n2_:=Aside0.mk (below_step HB.out hb)
   have GEF:=Aside0.mk ((by rw [hg];exact below_size HB.out):w.heap.size≤gf)
   have NEF:=Aside0.mk ((by rw [hg];exact Nat.ne_of_lt (blk_lt BK186.out)):gb186≠gf)
   have BKF:=Aside0.mk hbox
   clear BK186 HB hHeld hb hbox hg
   have BK186:=n1_
   have HB:=n2_
   clear n1_ n2_
   refine hK.out _ _ ((blk_cell BK186.out 0).trans rfl) (fun hHeld=>?_)
   clear hK K
   refine norm_ (a':=?_) ?_ ?_
   rotate_left
   ·show Act.put _ (some 3) _=_
    simp only [Act.put,sa_,s0_,ss_,i64_w,i32_w]
    rfl
   refine one_ (i:=0) (N:=some 7) #[true,true,true,true,false,false,true,false] rfl rfl (one_of HT_.out (by kernel_rfl)) (by decide) (fun K hK=>?_)
   refine goes_ Tryd.func23 (by kernel_rfl) rfl #[] (by rfl) rfl rfl (by (try simp only [List.map_toArray,List.map_cons,List.map_nil]);first | done | rfl | (simp only [List.length_drop,List.length_take];rfl)) ?_
   with_reducible refine (Y20.calls  t187 _ A2.out).mono ?_
   rintro e w10 ⟨v188,rfl,ho0,hb⟩
   refine ⟨_,rfl,?_⟩
   have n1_:=Aside0.mk (blk_below BK186.out hb)
   have n2_:=Aside0.mk (below_step HB.out hb)
   have n3_:=Aside0.mk (blk_below BKF.out hb)
   clear BKF
   have BKF:=n3_
   clear BK186 HB hHeld
   have BK186:=n1_
   have HB:=n2_
   clear n1_ n2_ hb
   obtain ⟨Ao10,co10,eo10⟩:=Kd.R_slice ho0
   (first | subst eo10 | (injection eo10 with f1_ f2_ f3_;have f4_:=f1_.symm;have f5_:=f3_.symm;clear f1_ f2_ f3_;subst f4_;subst f5_))
   have p190:=c4
   have q190:=c5
   obtain ⟨ad190,e190,hx190_0,hx190_1⟩:=at_T50 (Kd.R_reads' ho0).2.2 (ji3) p190 q190
   cases e190
   replace p190:=eq_true p190
   replace q190:=eq_true q190
   clear ho0
   refine hK.out _ _ ((blk_cell BK186.out 0).trans rfl) (fun hHeld=>?_)
   clear hK K
   refine norm_ (a':=?_) ?_ ?_
   rotate_left
   ·show Act.put _ (some 7) _=_
    simp only [Act.put,sa_,s0_,ss_,i64_w,i32_w]
    rfl
   refine pure_ (i:=4) (N:=some 11) (v:=?_) (a':=?_) #[true,true,true,true,true,false,true,false] rfl rfl (any_of HT_.out (by kernel_rfl)) (fun _ _ _ h=>h) (Or.inl ⟨by rfl,?_⟩) ?_ ?_
   rotate_left
   ·intro w'
    go_simp
    with_reducible rfl
   rotate_left
   ·simp only [Act.put,sa_,s0_,ss_,i64_w,i32_w]
    rfl
   refine one_ (i:=5) (N:=some 12) #[true,true,true,true,true,true,true,false] rfl rfl (one_of HT_.out (by kernel_rfl)) (by decide) (fun K hK=>?_)
   refine value_ (w1:=w10) (v:=.agg #[.string ((rd_T50 t187 (ji3)).f0),.string ((rd_T50 t187 (ji3)).f1)]) (by rfl) rfl ?_ ?_
   ·go_simp
   refine hK.out _ _ ((blk_cell BK186.out 0).trans rfl) (fun hHeld=>?_)
   clear hK K
   refine norm_ (a':=?_) ?_ ?_
   rotate_left
   ·show Act.put _ (some 12) _=_
    simp only [Act.put,sa_,s0_,ss_,i64_w,i32_w]
    rfl
   refine one_ (i:=7) (N:=none) #[true,true,true,true,true,true,true,true] rfl rfl (one_of HT_.out (by kernel_rfl)) (by decide) (fun K hK=>?_)
   have hs12:w10.cell? ⟨gf,0,none⟩=some (.string (⟨#[]⟩:ByteArray)):=(blk_cell BKF.out 0).trans rfl
   have hfs12:=blk_frozen BKF.out 0
   have hs13:w10.cell? ⟨gf,1,none⟩=some (.string (⟨#[]⟩:ByteArray)):=(blk_cell BKF.out 1).trans rfl
   have hfs13:=blk_frozen BKF.out 1
   refine skip_ (w1:=?_) (by rfl) rfl ?_ ?_
   rotate_left
   ·go_simp
    rfl
   refine hK.out _ _ ((cell_far (p:=⟨gf,_,none⟩) NEF.out _).trans ((cell_far (p:=⟨gf,_,none⟩) NEF.out _).trans hHeld)) (fun hHeld=>?_)
   clear hK K
   refine done_ (done_of HT_.out (by kernel_rfl)) ?_
   try go_wp2
   go_meet
   case rel=>exact ⟨gf,rfl,⟨blk_far (blk_far BK186.out NEF.out _) NEF.out _⟩,⟨blk_put (cs':=#[.string ((rd_T50 t187 (ji3)).f0),.string ((rd_T50 t187 (ji3)).f1)]) (blk_put (cs':=#[.string ((rd_T50 t187 (ji3)).f0),.string (⟨#[]⟩:ByteArray)]) BKF.out 0 _ rfl) 1 _ rfl⟩,⟨below_set (below_set HB.out GEF.out) GEF.out⟩⟩
 case rest=>as_aux_lemma =>
  obtain ⟨gf,rfl,BK186',BKF,HB'⟩:=hcut
  clear A2 HB BK186
  have BK186:=BK186'
  have HB:=HB'
  clear BK186' HB'
  have hcz_0:wc.cell? ⟨gf,0,none⟩=some (.string ((rd_T50 t187 (ji3)).f0)):=(blk_cell BKF.out 0).trans rfl
  have hfz_0:=blk_frozen BKF.out 0
  have hcy_5:wc.cell? ⟨gb186,5,none⟩=some (.int .i64 a0_5):=(blk_cell BK186.out 5).trans rfl
  have hfy_5:=blk_frozen BK186.out 5
  go_upto_if 17 with (fail)
  go_cut [4] (fun v4 wd=>v4 = .string x0∧Aside0 (wd.heap[gb186]? = some (.cells #[.int .i64 a0_0,.int .i64 a0_1,.int .i64 a0_2,.string a0_3,.string a0_4,.int .i64 a0_5] 23 (0,0)))∧Aside0 (wd.heap[gf]? = some (.cells #[.string ((rd_T50 t187 (ji3)).f0),.string ((rd_T50 t187 (ji3)).f1)] 50 (0,0)))∧Aside0 (Below w.heap.size w wd))
  case first=>as_aux_lemma =>
   clear AG AS
   have HX:=AX.out
   clear AX
   unfold Y18.s at HX
   by_cases c7:a0_5=(-1)
   ·rw [if_pos c7] at HX
    have c7b0:(a0_5 == (-1))=true:=beq_iff_eq.mpr c7
    have c7b1:(a0_5 != (-1))=false:=bne_eq_false_iff_eq.mpr c7
    have HX':=Option.some.inj HX
    subst HX'
    clear c7 HX
    (first | rw [c7b1] | skip)
    go_wp2
    go_meet
    case rel=>exact ⟨rfl,BK186,BKF,HB⟩
   ·rw [if_neg c7] at HX
    have c7b0:(a0_5 == (-1))=false:=beq_eq_false_iff_ne.mpr c7
    have c7b1:(a0_5 != (-1))=true:=bne_iff_ne.mpr c7
    obtain ⟨d,Ad,HX⟩:=Option.bind_eq_some_iff.mp HX
    replace HX:(if 1+d.size≤9223372036854775807 then (if (1+d.size)+1≤9223372036854775807 then (if ((1+d.size)+1)+(((rd_T50 t187 (ji3)).f0)).size≤9223372036854775807 then (some ((((⟨#[33]⟩:ByteArray) ++ d) ++ (⟨#[32]⟩:ByteArray)) ++ (((rd_T50 t187 (ji3)).f0)))) else none) else none) else none)=some x0:=HX
    by_cases s0_:1+d.size≤9223372036854775807
    case neg=>rw [if_neg s0_] at HX;cases HX
    rw [if_pos s0_] at HX
    have s0b0:=eq_true s0_
    have s0b1:decide (1+d.size≤9223372036854775807)=true:=decide_eq_true s0_
    have s0b2:(9223372036854775807<1+d.size)=False:=eq_false (Nat.not_lt.2 s0_)
    by_cases s1_:(1+d.size)+1≤9223372036854775807
    case neg=>rw [if_neg s1_] at HX;cases HX
    rw [if_pos s1_] at HX
    have s1b0:=eq_true s1_
    have s1b1:decide ((1+d.size)+1≤9223372036854775807)=true:=decide_eq_true s1_
    have s1b2:(9223372036854775807<(1+d.size)+1)=False:=eq_false (Nat.not_lt.2 s1_)
    by_cases s2_:((1+d.size)+1)+(((rd_T50 t187 (ji3)).f0)).size≤9223372036854775807
    case neg=>rw [if_neg s2_] at HX;cases HX
    rw [if_pos s2_] at HX
    have s2b0:=eq_true s2_
    have s2b1:decide (((1+d.size)+1)+(((rd_T50 t187 (ji3)).f0)).size≤9223372036854775807)=true:=decide_eq_true s2_
    have s2b2:(9223372036854775807<((1+d.size)+1)+(((rd_T50 t187 (ji3)).f0)).size)=False:=eq_false (Nat.not_lt.2 s2_)
    have HX':=Option.some.inj HX
    subst HX'
    clear HX
    (first | rw [c7b1] | skip)
    go_wp2_with (first | ((with_reducible refine gate_callee (f:=35) rfl ?_);refine goesL_ (some 20) rfl rfl Tryd.func35 (by kernel_rfl) rfl #[.int .i64 a0_5] rfl (by (try simp only [List.map_toArray,List.map_cons,List.map_nil]);first | done | rfl) ?_;(with_reducible refine (Y27.calls a0_5 d _ Ad (tab_below htab HB.out)).mono ?_);rintro e w_ ⟨rfl,hb⟩;refine ⟨_,rfl,?_⟩;have n1_:=Aside0.mk (blk_below BK186.out hb);have n2_:=Aside0.mk (below_step HB.out hb);have n3_:=Aside0.mk (blk_below BKF.out hb);clear BK186 HB BKF;have BK186:=n1_;have HB:=n2_;have BKF:=n3_;clear n1_ n2_ n3_ hb))
    go_meet
    case rel=>exact ⟨rfl,BK186,BKF,HB⟩
  case rest=>as_aux_lemma =>
   obtain ⟨rfl,BK186',BKF',HB'⟩:=hcut
   clear AX BK186 BKF HB hcz_0 hfz_0 hcy_5 hfy_5
   have BK186:=BK186'
   have HB:=HB'
   clear BK186' HB'
   have hcz_1:wc.cell? ⟨gf,1,none⟩=some (.string ((rd_T50 t187 (ji3)).f1)):=(blk_cell BKF'.out 1).trans rfl
   have hfz_1:=blk_frozen BKF'.out 1
   go_wp2
   go_loopg [4] ((((rd_T50 t187 (ji3)).f1)).size+1) (fun kq v4 w'=>∃ (pos:Nat) (o_:ByteArray),v4 = .string o_∧Aside0 (Y18.g a0_1 a0_2 a0_3 a0_4 ((((rd_T50 t187 (ji3)).f1)).data.toList.drop pos) o_=some r)∧Aside0 ((((rd_T50 t187 (ji3)).f1)).size<pos+kq)∧Aside0 (kq≤(((rd_T50 t187 (ji3)).f1)).size+1)∧Aside0 (w'.heap[wc.heap.size]? = some (.stringIter (((rd_T50 t187 (ji3)).f1)) pos))∧Aside0 (w'.heap[gb186]? = some (.cells #[.int .i64 a0_0,.int .i64 a0_1,.int .i64 a0_2,.string a0_3,.string a0_4,.int .i64 a0_5] 23 (0,0)))∧Aside0 (Below w.heap.size w w'))
   case atStart=>exact ⟨0,x0,rfl,⟨by rw [List.drop_zero];exact AG.out⟩,⟨by omega⟩,⟨Nat.le_refl _⟩,⟨World.iter_heap _ _ _⟩,⟨blk_alloc BK186.out _⟩,⟨below_alloc HB.out _⟩⟩
   case round =>
    have HGI:=Aside0.mk (below_size HB.out)
    have HNE:=Aside0.mk (Nat.ne_of_lt (blk_lt BK186.out))
    clear AG BK186 BKF' hcz_1 hfz_1 HB
    obtain ⟨pos,o_,rfl,HA,HK,HK1,HI,BK186,HB⟩:=hrel
    obtain ⟨gi,hgi⟩:∃ g_,wc.heap.size=g_:=⟨_,rfl⟩
    simp only [hgi] at *
    obtain ⟨F1,hF1⟩:∃ x_,((rd_T50 t187 (ji3)).f1)=x_:=⟨_,rfl⟩
    rw [hF1] at HA HK HK1 HI AS
    by_cases hp:pos<F1.size
    case neg =>
     have hnx:∀ ty,(Instr.next (.pointer (some ⟨gi,0,none⟩)) true ty).run Tryd.prog wr = .ok (.tuple #[.bool false]) wr:=fun ty=>Lib.run_next_end_at wr gi F1 pos ty HI.out hp
     have hd:F1.data.toList.drop pos=[]:=List.drop_eq_nil_iff.2 (by have:F1.data.toList.length=F1.size:=rfl;omega)
     have HA':=HA.out
     rw [hd] at HA'
     simp only [Y18.g] at HA'
     have HA2:=Option.some.inj HA'
     subst HA2
     clear HA HA'
     go_wp2
     go_ret
     exact ⟨rfl,HB.out⟩
    cases gk with
    | zero=>exact absurd HK.out (by omega)
    | succ k1 =>
     have hlen:F1.data.toList.length=F1.size:=rfl
     have hd:F1.data.toList.drop pos=F1[pos] :: F1.data.toList.drop (pos+1):=List.drop_eq_getElem_cons (by omega)
     have hb0:(F1[pos]).toNat<128:=AS.out _ (List.mem_of_mem_drop (i:=pos) (by rw [hd];exact List.mem_cons_self ..))
     have hnx:∀ ty,(Instr.next (.pointer (some ⟨gi,0,none⟩)) true ty).run Tryd.prog wr=_:=fun ty=>Lib.run_next_ascii_at wr gi F1 pos ty HI.out hp hb0
     have HA':=HA.out
     rw [hd] at HA'
     clear HA hd hb0
     have HI2:=Aside0.mk (Lib.iterAt_heap wr gi F1 pos (pos+1) HI.out)
     have BK2:=Aside0.mk ((Lib.iterAt_other wr gi gb186 F1 (pos+1) HNE.out).trans BK186.out)
     have HB2:=Aside0.mk (Lib.below_iterAt HB.out HGI.out F1 (pos+1))
     clear HI BK186 HB
     generalize wr.iterAt gi F1 (pos+1)=w2 at hnx HI2 BK2 HB2
     have HI:=HI2
     have BK186:=BK2
     have HB:=HB2
     clear HI2 BK2 HB2
     generalize F1[pos]=c at hnx HA'
     subst hF1
     simp only [Y18.g] at HA'
     obtain ⟨d,Ad,HA'⟩:=Option.bind_eq_some_iff.mp HA'
     replace HA':(if 1+d.size≤9223372036854775807 then (if o_.size+(1+d.size)≤9223372036854775807 then Y18.g a0_1 a0_2 a0_3 a0_4 ((((rd_T50 t187 (ji3)).f1)).data.toList.drop (pos+1)) (o_ ++ ((⟨#[32]⟩:ByteArray) ++ d)) else none) else none)=some r:=HA'
     by_cases s0_:1+d.size≤9223372036854775807
     case neg=>rw [if_neg s0_] at HA';cases HA'
     rw [if_pos s0_] at HA'
     have s0b0:=eq_true s0_
     have s0b1:decide (1+d.size≤9223372036854775807)=true:=decide_eq_true s0_
     have s0b2:(9223372036854775807<1+d.size)=False:=eq_false (Nat.not_lt.2 s0_)
     by_cases s1_:o_.size+(1+d.size)≤9223372036854775807
     case neg=>rw [if_neg s1_] at HA';cases HA'
     rw [if_pos s1_] at HA'
     have s1b0:=eq_true s1_
     have s1b1:decide (o_.size+(1+d.size)≤9223372036854775807)=true:=decide_eq_true s1_
     have s1b2:(9223372036854775807<o_.size+(1+d.size))=False:=eq_false (Nat.not_lt.2 s1_)
     have HA:=Aside0.mk HA'
     clear HA'
     have hcy_1:w2.cell? ⟨gb186,1,none⟩=some (.int .i64 a0_1):=(blk_cell BK186.out 1).trans rfl
     have hcy_2:w2.cell? ⟨gb186,2,none⟩=some (.int .i64 a0_2):=(blk_cell BK186.out 2).trans rfl
     have hcy_3:w2.cell? ⟨gb186,3,none⟩=some (.string a0_3):=(blk_cell BK186.out 3).trans rfl
     have hcy_4:w2.cell? ⟨gb186,4,none⟩=some (.string a0_4):=(blk_cell BK186.out 4).trans rfl
     have hfy_1:=blk_frozen BK186.out 1
     have hfy_2:=blk_frozen BK186.out 2
     have hfy_3:=blk_frozen BK186.out 3
     have hfy_4:=blk_frozen BK186.out 4
     have toc:∀ n:Nat,n<256→¬ c=UInt8.ofNat n→((c.toNat:Int) == (n:Int))=false:=fun n hn h_=>beq_eq_false_iff_ne.mpr (fun he=>h_ (by apply UInt8.toNat_inj.1;rw [UInt8.toNat_ofNat_of_lt' hn];omega))
     by_cases c65:c=65
     ·rw [if_pos c65] at Ad
      have cb65:((c.toNat:Int) == 65)=true:=by rw [c65];rfl
      clear c65 toc
      go_wp2_with (first | ((with_reducible refine gate_callee (f:=35) rfl ?_);refine goesL_ (some 42) rfl rfl Tryd.func35 (by kernel_rfl) rfl #[.int .i64 a0_1] rfl (by (try simp only [List.map_toArray,List.map_cons,List.map_nil]);first | done | rfl) ?_;(with_reducible refine (Y27.calls a0_1 d _ Ad (tab_below htab HB.out)).mono ?_);rintro e w_ ⟨rfl,hb⟩;refine ⟨_,rfl,?_⟩;have n1_:=Aside0.mk (blk_below BK186.out hb);have n2_:=Aside0.mk (below_step HB.out hb);have n3_:=Aside0.mk (blk_below HI.out hb);clear BK186 HB HI;have BK186:=n1_;have HB:=n2_;have HI:=n3_;clear n1_ n2_ n3_ hb))
      go_roundg k1
      case measure=>have:=HK1.out;omega
      case rel=>exact ⟨pos+1,_,rfl,HA,⟨by have:=HK.out;omega⟩,⟨by have:=HK1.out;omega⟩,HI,BK186,HB⟩
     ·rw [if_neg c65] at Ad
      have cb65:((c.toNat:Int) == 65)=false:=toc 65 (by decide) c65
      by_cases c66:c=66
      ·rw [if_pos c66] at Ad
       have cb66:((c.toNat:Int) == 66)=true:=by rw [c66];rfl
       clear c65 c66 toc
       go_wp2_with (first | ((with_reducible refine gate_callee (f:=35) rfl ?_);refine goesL_ (some 50) rfl rfl Tryd.func35 (by kernel_rfl) rfl #[.int .i64 a0_2] rfl (by (try simp only [List.map_toArray,List.map_cons,List.map_nil]);first | done | rfl) ?_;(with_reducible refine (Y27.calls a0_2 d _ Ad (tab_below htab HB.out)).mono ?_);rintro e w_ ⟨rfl,hb⟩;refine ⟨_,rfl,?_⟩;have n1_:=Aside0.mk (blk_below BK186.out hb);have n2_:=Aside0.mk (below_step HB.out hb);have n3_:=Aside0.mk (blk_below HI.out hb);clear BK186 HB HI;have BK186:=n1_;have HB:=n2_;have HI:=n3_;clear n1_ n2_ n3_ hb))
       go_roundg k1
       case measure=>have:=HK1.out;omega
       case rel=>exact ⟨pos+1,_,rfl,HA,⟨by have:=HK.out;omega⟩,⟨by have:=HK1.out;omega⟩,HI,BK186,HB⟩
      ·rw [if_neg c66] at Ad
       have cb66:((c.toNat:Int) == 66)=false:=toc 66 (by decide) c66
       by_cases c75:c=75
       ·rw [if_pos c75] at Ad
        have cb75:((c.toNat:Int) == 75)=true:=by rw [c75];rfl
        have Ad':=Option.some.inj Ad
        subst Ad'
        clear c65 c66 c75 toc Ad
        go_wp2
        go_roundg k1
        case measure=>have:=HK1.out;omega
        case rel=>exact ⟨pos+1,_,rfl,HA,⟨by have:=HK.out;omega⟩,⟨by have:=HK1.out;omega⟩,HI,BK186,HB⟩
       ·rw [if_neg c75] at Ad
        have cb75:((c.toNat:Int) == 75)=false:=toc 75 (by decide) c75
        have Ad':=Option.some.inj Ad
        subst Ad'
        clear c65 c66 c75 toc Ad
        go_wp2
        go_roundg k1
        case measure=>have:=HK1.out;omega
        case rel=>exact ⟨pos+1,_,rfl,HA,⟨by have:=HK.out;omega⟩,⟨by have:=HK1.out;omega⟩,HI,BK186,HB⟩



/-! ### Y29: function 46 -/
def Y29.f (a0:ByteArray) (a1:ByteArray):Option (Bool):=if (a0.size:Int)≥(a1.size:Int) then (if 0≤(a1.size:Int) then (if (a1.size:Int)≤(a0.size:Int) then (some ((a0.extract 0 ((a1.size:Int):Int).toNat).toList == a1.toList)) else (none)) else (none)) else (some false)
set_option maxHeartbeats 8000000 in
set_option maxRecDepth 100000 in
theorem Y29.calls (a0:ByteArray) (a1:ByteArray) (r:Bool) (w:World) (h:Y29.f a0 a1=some r) :
  Calls Tryd.prog 46 #[.string a0,.string a1] w fun e w'=>e = .returned (.bool r)∧Drawn0 w w':=by
 have H:(if (a0.size:Int)≥(a1.size:Int) then (if 0≤(a1.size:Int) then (if (a1.size:Int)≤(a0.size:Int) then (some ((a0.extract 0 ((a1.size:Int):Int).toNat).toList == a1.toList)) else (none)) else (none)) else (some false))=some r:=h
 clear h
 by_cases c3:(a0.size:Int)≥(a1.size:Int)
 ·rw [if_pos c3] at H
  have c3b0:decide ((a1.size:Int)≤(a0.size:Int))=true:=decide_eq_true c3
  have c3b1:decide (a1.size≤a0.size)=true:=decide_eq_true (Int.ofNat_le.mp c3)
  clear c3
  by_cases c4:0≤(a1.size:Int)
  ·rw [if_pos c4] at H
   have c4b0:=eq_true c4
   have c4b1:decide (0≤(a1.size:Int))=true:=decide_eq_true c4
   clear c4
   by_cases c5:(a1.size:Int)≤(a0.size:Int)
   ·rw [if_pos c5] at H
    have c5b0:=eq_true c5
    have c5b1:decide ((a1.size:Int)≤(a0.size:Int))=true:=decide_eq_true c5
    clear c5
    obtain rfl:=Option.some.inj H
    go_enter Tryd.func46,Tryd.ntmps46
    go_wp2
    go_ret
    exact ⟨by first | rfl | (simp;done) | (simp [*];done) | (simp [bne];done),by repeat (first | exact Drawn0.refl _ | apply Drawn0.step)⟩
   ·rw [if_neg c5] at H
    exact absurd H (by simp)
  ·rw [if_neg c4] at H
   exact absurd H (by simp)
 ·rw [if_neg c3] at H
  have c3b0:decide ((a1.size:Int)≤(a0.size:Int))=false:=decide_eq_false c3
  have c3b1:decide (a1.size≤a0.size)=false:=decide_eq_false (fun h=>c3 (Int.ofNat_le.mpr h))
  clear c3
  obtain rfl:=Option.some.inj H
  go_enter Tryd.func46,Tryd.ntmps46
  go_wp2
  go_ret
  exact ⟨by first | rfl | (simp;done) | (simp [*];done) | (simp [bne];done),by repeat (first | exact Drawn0.refl _ | apply Drawn0.step)⟩


/-! ### Y33: function 33 -/
def Y33.f (a0:ByteArray) (a1:ByteArray):Option (ByteArray × Bool):=(Y29.f a0 a1).bind fun t169=>(if t169=true then (if 0≤(a1.size:Int) then (if (a1.size:Int)≤(a0.size:Int) then (some (a0.extract ((a1.size:Int):Int).toNat a0.size,true)) else (none)) else (none)) else (some (a0,false)))
set_option maxHeartbeats 8000000 in
set_option maxRecDepth 100000 in
theorem Y33.calls (a0:ByteArray) (a1:ByteArray) (r1:ByteArray) (r2:Bool) (w:World) (h:Y33.f a0 a1=some (r1,r2)) :
  Calls Tryd.prog 33 #[.string a0,.string a1] w fun e w'=>e = .returned (.tuple #[.string r1,.bool r2])∧Drawn0 w w':=by
 have H:((Y29.f a0 a1).bind fun t169=>(if t169=true then (if 0≤(a1.size:Int) then (if (a1.size:Int)≤(a0.size:Int) then (some (a0.extract ((a1.size:Int):Int).toNat a0.size,true)) else (none)) else (none)) else (some (a0,false))))=some (r1,r2):=h
 clear h
 replace H:=Option.bind_eq_some_iff.mp H
 obtain ⟨t169,A30,H⟩:=H
 replace H:(if t169=true then (if 0≤(a1.size:Int) then (if (a1.size:Int)≤(a0.size:Int) then (some (a0.extract ((a1.size:Int):Int).toNat a0.size,true)) else (none)) else (none)) else (some (a0,false)))=some (r1,r2):=H
 have A3:=Aside0.mk A30
 clear A30
 by_cases c4:t169=true
 ·subst c4
  have H1:(if 0≤(a1.size:Int) then (if (a1.size:Int)≤(a0.size:Int) then (some (a0.extract ((a1.size:Int):Int).toNat a0.size,true)) else (none)) else (none))=some (r1,r2):=by rw [if_pos rfl] at H;exact H
  clear H
  have H:=H1
  clear H1
  by_cases c5:0≤(a1.size:Int)
  ·rw [if_pos c5] at H
   have c5b0:=eq_true c5
   have c5b1:decide (0≤(a1.size:Int))=true:=decide_eq_true c5
   clear c5
   by_cases c6:(a1.size:Int)≤(a0.size:Int)
   ·rw [if_pos c6] at H
    have c6b0:=eq_true c6
    have c6b1:decide ((a1.size:Int)≤(a0.size:Int))=true:=decide_eq_true c6
    clear c6
    simp only [Option.some.injEq,Prod.mk.injEq] at H
    obtain ⟨rfl,rfl⟩:=H
    go_enter Tryd.func33,Tryd.ntmps33
    go_wp2_with (first | ((with_reducible refine gate_callee (f:=46) rfl ?_);refine goesL_ (some 8) rfl rfl Tryd.func46 (by kernel_rfl) rfl #[.string a0,.string a1] rfl (by (try simp only [List.map_toArray,List.map_cons,List.map_nil]);first | done | rfl | (simp only [List.length_drop,List.length_take];rfl)) ?_;(with_reducible refine (Y29.calls a0 a1 true _ A3.out).mono ?_);rintro e w' ⟨rfl,⟨nd,rfl⟩⟩;refine ⟨_,rfl,?_⟩))
    go_ret2
    exact ⟨by first | rfl | (simp;done) | (simp [*];done) | (simp [bne];done),by repeat (first | exact Drawn0.refl _ | apply Drawn0.step)⟩
   ·rw [if_neg c6] at H
    exact absurd H (by simp)
  ·rw [if_neg c5] at H
   exact absurd H (by simp)
 ·replace c4:=Bool.eq_false_iff.mpr c4
  subst c4
  have H1:(some (a0,false))=some (r1,r2):=by rw [if_neg (show ¬ (false=true) by decide)] at H;exact H
  clear H
  have H:=H1
  clear H1
  simp only [Option.some.injEq,Prod.mk.injEq] at H
  obtain ⟨rfl,rfl⟩:=H
  go_enter Tryd.func33,Tryd.ntmps33
  go_wp2_with (first | ((with_reducible refine gate_callee (f:=46) rfl ?_);refine goesL_ (some 8) rfl rfl Tryd.func46 (by kernel_rfl) rfl #[.string a0,.string a1] rfl (by (try simp only [List.map_toArray,List.map_cons,List.map_nil]);first | done | rfl | (simp only [List.length_drop,List.length_take];rfl)) ?_;(with_reducible refine (Y29.calls a0 a1 false _ A3.out).mono ?_);rintro e w' ⟨rfl,⟨nd,rfl⟩⟩;refine ⟨_,rfl,?_⟩))
  go_ret2
  exact ⟨by first | rfl | (simp;done) | (simp [*];done) | (simp [bne];done),by repeat (first | exact Drawn0.refl _ | apply Drawn0.step)⟩


/-! ### Y31: function 20 -/
def Y31.f (a0:ByteArray) (a1:ByteArray):Option (ByteArray × Bool):=(Y33.f a0 a1).bind fun bt170=>(some (bt170.1,bt170.2))
set_option maxHeartbeats 8000000 in
set_option maxRecDepth 100000 in
theorem Y31.calls (a0:ByteArray) (a1:ByteArray) (r1:ByteArray) (r2:Bool) (w:World) (h:Y31.f a0 a1=some (r1,r2)) :
  Calls Tryd.prog 20 #[.string a0,.string a1] w fun e w'=>e = .returned (.tuple #[.string r1,.bool r2])∧Drawn0 w w':=by
 have H:((Y33.f a0 a1).bind fun bt170=>(some (bt170.1,bt170.2)))=some (r1,r2):=h
 clear h
 replace H:=Option.bind_eq_some_iff.mp H
 obtain ⟨⟨t170,t171⟩,A30,H⟩:=H
 replace H:(some (t170,t171))=some (r1,r2):=H
 have A3:=Aside0.mk A30
 clear A30
 simp only [Option.some.injEq,Prod.mk.injEq] at H
 obtain ⟨rfl,rfl⟩:=H
 go_enter Tryd.func20,Tryd.ntmps20
 go_wp2_with (first | ((with_reducible refine gate_callee (f:=33) rfl ?_);refine goesL_ (some 8) rfl rfl Tryd.func33 (by kernel_rfl) rfl #[.string a0,.string a1] rfl (by (try simp only [List.map_toArray,List.map_cons,List.map_nil]);first | done | rfl | (simp only [List.length_drop,List.length_take];rfl)) ?_;(with_reducible refine (Y33.calls a0 a1 t170 t171 _ A3.out).mono ?_);rintro e w' ⟨rfl,⟨nd,rfl⟩⟩;refine ⟨_,rfl,?_⟩))
 go_ret2
 exact ⟨by first | rfl | (simp;done) | (simp [*];done) | (simp [bne];done),by repeat (first | exact Drawn0.refl _ | apply Drawn0.step)⟩


/-! ### Y34: function 24 -/
def Y34.f (a0_0:ByteArray) (a0_1:ByteArray) (l1_0:List ByteArray):Option (Bool):=if 0<(l1_0.length:Int) then (some (a0_0.toList == (rdOf ByteArray.empty l1_0 0).toList)) else (none)
set_option maxHeartbeats 8000000 in
set_option maxRecDepth 100000 in
theorem Y34.calls (a0_0:ByteArray) (a0_1:ByteArray) (gb1:Nat) (A1_0:Option Addr) (c1_0:Nat) (l1_0:List ByteArray) (r:Bool) (w:World) (hr1_0:Kd.C Kd.string w A1_0 l1_0.length l1_0) (hc1_0:l1_0.length≤c1_0) (hk1:w.heap[gb1]? = some (.cells #[.slice A1_0 l1_0.length c1_0] 29 (0,0))) (h:Y34.f a0_0 a0_1 l1_0=some r) :
  Calls Tryd.prog 24 #[.agg #[.string a0_0,.string a0_1],.pointer (some ⟨gb1,0,none⟩)] w fun e w'=>e = .returned (.bool r)∧Below w.heap.size w w':=by
 have hu50:=Tryd.underlying50
 have HR1_0:=Aside0.mk hr1_0
 have HC1_0:=Aside0.mk hc1_0
 clear hr1_0 hc1_0
 have BK61:=Aside0.mk hk1
 clear hk1
 have HB:=Aside0.mk (Below.refl w.heap.size w)
 have H:(if 0<(l1_0.length:Int) then (some (a0_0.toList == (rdOf ByteArray.empty l1_0 0).toList)) else (none))=some r:=h
 clear h
 by_cases c3:0<(l1_0.length:Int)
 ·rw [if_pos c3] at H
  have c3b0:decide (0<(l1_0.length:Int))=true:=decide_eq_true c3
  have c3b1:decide (0<l1_0.length)=true:=decide_eq_true (by omega)
  clear c3
  obtain rfl:=Option.some.inj H
  go_enter Tryd.func24,Tryd.ntmps24
  go_wp2_with (first | ((with_reducible refine gate_dst (N:=2) rfl ?_);refine box_event ?hg (N:=2) ?hd (cs:=#[.string a0_0,.string a0_1]) (t:=50) ?hr ?_;(case hd=>rfl);(case hg=>rfl);(case hr=>first | (go_simp;done) | (go_simp;rfl));intro gb217 hg w4 hbox hb;have n0_:=Aside0.mk (blk_below (g:=gb1) (o:=.cells #[.slice A1_0 l1_0.length c1_0] 29 (0,0)) (by (with_reducible repeat (first | refine blk_drewN ?_ _ | refine blk_drew ?_ | refine blk_alloc ?_ _));exact BK61.out) hb);have n1_:=Aside0.mk (below_step (by repeat (first | (with_reducible first | exact HB.out | apply below_alloc | apply pw_below_drewN | apply below_drew1 | refine below_set ?_ GE61.out) | exact HB.out)) hb);have n2_:=Aside0.mk (hbox);have n3_:=Aside0.mk ((by rw [hg];exact (below_size (by repeat (first | (with_reducible first | exact HB.out | apply below_alloc | apply pw_below_drewN | apply below_drew1 | refine below_set ?_ GE61.out) | exact HB.out))):w.heap.size≤gb217));have n4_:=Aside0.mk ((by rw [hg];exact (below_size (by repeat (first | (with_reducible first | exact HB.out | apply below_alloc | apply pw_below_drewN | apply below_drew1 | refine below_set ?_ GE61.out) | exact HB.out))):w.heap.size≤gb217));have n5_:=Aside0.mk ((by rw [hg];exact Nat.ne_of_lt (blk_lt (g:=gb1) (o:=.cells #[.slice A1_0 l1_0.length c1_0] 29 (0,0)) (by (with_reducible repeat (first | refine blk_drewN ?_ _ | refine blk_drew ?_ | refine blk_alloc ?_ _));exact BK61.out)):gb1≠gb217));have n6_:=Aside0.mk ((by rw [hg];exact Nat.ne_of_gt (blk_lt (g:=gb1) (o:=.cells #[.slice A1_0 l1_0.length c1_0] 29 (0,0)) (by (with_reducible repeat (first | refine blk_drewN ?_ _ | refine blk_drew ?_ | refine blk_alloc ?_ _));exact BK61.out)):gb217≠gb1));clear BK61;clear HB;have BK61:=n0_;have HB:=n1_;have BK217:=n2_;have GW217:=n3_;have GE217:=n4_;have NB61_217:=n5_;have NB217_61:=n6_;clear n0_ n1_ n2_ n3_ n4_ n5_ n6_;clear hb hbox hg;have hnb5:=NB217_61.out;have hnc5:=NB61_217.out;have hcz6_0:w4.cell? ⟨gb217,0,none⟩=some (.string a0_0):=(blk_cell BK217.out 0).trans rfl;have hcz6_1:w4.cell? ⟨gb217,1,none⟩=some (.string a0_1):=(blk_cell BK217.out 1).trans rfl;have hfz6_0:=blk_frozen BK217.out 0;have hfz6_1:=blk_frozen BK217.out 1;have hcz7_0:w4.cell? ⟨gb1,0,none⟩=some (.slice A1_0 l1_0.length c1_0):=(blk_cell BK61.out 0).trans rfl;have hfz7_0:=blk_frozen BK61.out 0;have p218:0≤(0:Int):=(by omega);have q218:0<(l1_0.length:Int):=of_decide_eq_true (by first | (with_reducible assumption) | assumption);obtain ⟨ad218,e218,hx218_0⟩:=Kd.at_string HR1_0.out 0 p218 q218;cases e218;have qi218:(0<l1_0.length)=True:=eq_true (by omega);(try rw [show ((0:Int)).toNat=0 from rfl] at hx218_0);(try rw [Addr.add_zero'] at hx218_0);replace hx218_0:=(HB.out.cell (World.block_lt_of_cell? w _ hx218_0)).trans hx218_0;replace p218:=eq_true p218;replace q218:=eq_true q218))
  repeat (go_quiet (first | ((with_reducible refine gate_dst (N:=2) rfl ?_);refine box_event ?hg (N:=2) ?hd (cs:=#[.string a0_0,.string a0_1]) (t:=50) ?hr ?_;(case hd=>rfl);(case hg=>rfl);(case hr=>first | (go_simp;done) | (go_simp;rfl));intro gb217 hg w4 hbox hb;have n0_:=Aside0.mk (blk_below (g:=gb1) (o:=.cells #[.slice A1_0 l1_0.length c1_0] 29 (0,0)) (by (with_reducible repeat (first | refine blk_drewN ?_ _ | refine blk_drew ?_ | refine blk_alloc ?_ _));exact BK61.out) hb);have n1_:=Aside0.mk (below_step (by repeat (first | (with_reducible first | exact HB.out | apply below_alloc | apply pw_below_drewN | apply below_drew1 | refine below_set ?_ GE61.out) | exact HB.out)) hb);have n2_:=Aside0.mk (hbox);have n3_:=Aside0.mk ((by rw [hg];exact (below_size (by repeat (first | (with_reducible first | exact HB.out | apply below_alloc | apply pw_below_drewN | apply below_drew1 | refine below_set ?_ GE61.out) | exact HB.out))):w.heap.size≤gb217));have n4_:=Aside0.mk ((by rw [hg];exact (below_size (by repeat (first | (with_reducible first | exact HB.out | apply below_alloc | apply pw_below_drewN | apply below_drew1 | refine below_set ?_ GE61.out) | exact HB.out))):w.heap.size≤gb217));have n5_:=Aside0.mk ((by rw [hg];exact Nat.ne_of_lt (blk_lt (g:=gb1) (o:=.cells #[.slice A1_0 l1_0.length c1_0] 29 (0,0)) (by (with_reducible repeat (first | refine blk_drewN ?_ _ | refine blk_drew ?_ | refine blk_alloc ?_ _));exact BK61.out)):gb1≠gb217));have n6_:=Aside0.mk ((by rw [hg];exact Nat.ne_of_gt (blk_lt (g:=gb1) (o:=.cells #[.slice A1_0 l1_0.length c1_0] 29 (0,0)) (by (with_reducible repeat (first | refine blk_drewN ?_ _ | refine blk_drew ?_ | refine blk_alloc ?_ _));exact BK61.out)):gb217≠gb1));clear BK61;clear HB;have BK61:=n0_;have HB:=n1_;have BK217:=n2_;have GW217:=n3_;have GE217:=n4_;have NB61_217:=n5_;have NB217_61:=n6_;clear n0_ n1_ n2_ n3_ n4_ n5_ n6_;clear hb hbox hg;have hnb5:=NB217_61.out;have hnc5:=NB61_217.out;have hcz6_0:w4.cell? ⟨gb217,0,none⟩=some (.string a0_0):=(blk_cell BK217.out 0).trans rfl;have hcz6_1:w4.cell? ⟨gb217,1,none⟩=some (.string a0_1):=(blk_cell BK217.out 1).trans rfl;have hfz6_0:=blk_frozen BK217.out 0;have hfz6_1:=blk_frozen BK217.out 1;have hcz7_0:w4.cell? ⟨gb1,0,none⟩=some (.slice A1_0 l1_0.length c1_0):=(blk_cell BK61.out 0).trans rfl;have hfz7_0:=blk_frozen BK61.out 0;have p218:0≤(0:Int):=(by omega);have q218:0<(l1_0.length:Int):=of_decide_eq_true (by first | (with_reducible assumption) | assumption);obtain ⟨ad218,e218,hx218_0⟩:=Kd.at_string HR1_0.out 0 p218 q218;cases e218;have qi218:(0<l1_0.length)=True:=eq_true (by omega);(try rw [show ((0:Int)).toNat=0 from rfl] at hx218_0);(try rw [Addr.add_zero'] at hx218_0);replace hx218_0:=(HB.out.cell (World.block_lt_of_cell? w _ hx218_0)).trans hx218_0;replace p218:=eq_true p218;replace q218:=eq_true q218));try go_wp2_with (first | ((with_reducible refine gate_dst (N:=2) rfl ?_);refine box_event ?hg (N:=2) ?hd (cs:=#[.string a0_0,.string a0_1]) (t:=50) ?hr ?_;(case hd=>rfl);(case hg=>rfl);(case hr=>first | (go_simp;done) | (go_simp;rfl));intro gb217 hg w4 hbox hb;have n0_:=Aside0.mk (blk_below (g:=gb1) (o:=.cells #[.slice A1_0 l1_0.length c1_0] 29 (0,0)) (by (with_reducible repeat (first | refine blk_drewN ?_ _ | refine blk_drew ?_ | refine blk_alloc ?_ _));exact BK61.out) hb);have n1_:=Aside0.mk (below_step (by repeat (first | (with_reducible first | exact HB.out | apply below_alloc | apply pw_below_drewN | apply below_drew1 | refine below_set ?_ GE61.out) | exact HB.out)) hb);have n2_:=Aside0.mk (hbox);have n3_:=Aside0.mk ((by rw [hg];exact (below_size (by repeat (first | (with_reducible first | exact HB.out | apply below_alloc | apply pw_below_drewN | apply below_drew1 | refine below_set ?_ GE61.out) | exact HB.out))):w.heap.size≤gb217));have n4_:=Aside0.mk ((by rw [hg];exact (below_size (by repeat (first | (with_reducible first | exact HB.out | apply below_alloc | apply pw_below_drewN | apply below_drew1 | refine below_set ?_ GE61.out) | exact HB.out))):w.heap.size≤gb217));have n5_:=Aside0.mk ((by rw [hg];exact Nat.ne_of_lt (blk_lt (g:=gb1) (o:=.cells #[.slice A1_0 l1_0.length c1_0] 29 (0,0)) (by (with_reducible repeat (first | refine blk_drewN ?_ _ | refine blk_drew ?_ | refine blk_alloc ?_ _));exact BK61.out)):gb1≠gb217));have n6_:=Aside0.mk ((by rw [hg];exact Nat.ne_of_gt (blk_lt (g:=gb1) (o:=.cells #[.slice A1_0 l1_0.length c1_0] 29 (0,0)) (by (with_reducible repeat (first | refine blk_drewN ?_ _ | refine blk_drew ?_ | refine blk_alloc ?_ _));exact BK61.out)):gb217≠gb1));clear BK61;clear HB;have BK61:=n0_;have HB:=n1_;have BK217:=n2_;have GW217:=n3_;have GE217:=n4_;have NB61_217:=n5_;have NB217_61:=n6_;clear n0_ n1_ n2_ n3_ n4_ n5_ n6_;clear hb hbox hg;have hnb5:=NB217_61.out;have hnc5:=NB61_217.out;have hcz6_0:w4.cell? ⟨gb217,0,none⟩=some (.string a0_0):=(blk_cell BK217.out 0).trans rfl;have hcz6_1:w4.cell? ⟨gb217,1,none⟩=some (.string a0_1):=(blk_cell BK217.out 1).trans rfl;have hfz6_0:=blk_frozen BK217.out 0;have hfz6_1:=blk_frozen BK217.out 1;have hcz7_0:w4.cell? ⟨gb1,0,none⟩=some (.slice A1_0 l1_0.length c1_0):=(blk_cell BK61.out 0).trans rfl;have hfz7_0:=blk_frozen BK61.out 0;have p218:0≤(0:Int):=(by omega);have q218:0<(l1_0.length:Int):=of_decide_eq_true (by first | (with_reducible assumption) | assumption);obtain ⟨ad218,e218,hx218_0⟩:=Kd.at_string HR1_0.out 0 p218 q218;cases e218;have qi218:(0<l1_0.length)=True:=eq_true (by omega);(try rw [show ((0:Int)).toNat=0 from rfl] at hx218_0);(try rw [Addr.add_zero'] at hx218_0);replace hx218_0:=(HB.out.cell (World.block_lt_of_cell? w _ hx218_0)).trans hx218_0;replace p218:=eq_true p218;replace q218:=eq_true q218)))
  go_ret
  exact ⟨by first | rfl | (simp [errW_none,errW_some] <;> rfl) | (simp [*,errW_none,errW_some] <;> rfl),by repeat (first | (with_reducible first | exact HB.out | apply below_alloc | apply pw_below_drewN | apply below_drew1 | refine below_set ?_ GE61.out | refine below_set ?_ GE217.out) | exact HB.out)⟩
 ·rw [if_neg c3] at H
  exact absurd H (by simp)


/-! ### Y2: function 22 -/
def Y2.l0:Nat→List (S50)→Int→Int→List ByteArray→Option (Int)
 | 0,_,_,_,_=>none
 | k+1,x0,x7,x8,x62000=>if x8<x7 then (if 0≤x8 then (if x8<(x0.length:Int) then ((Y34.f ((rd_T50 x0 x8).f0) ((rd_T50 x0 x8).f1) x62000).bind fun t220=>(if t220=true then (some x8) else (Y2.l0 k x0 x7 (wrap64 (x8+1)) x62000))) else (none)) else (none)) else (some (-1))
def Y2.f (k:Nat) (l0:List (S50)) (l1_0:List ByteArray):Option (Int):=Y2.l0 k l0 (l0.length:Int) 0 l1_0
theorem Y2.mono_l:∀ k,(∀ y0 y1 y2 y3,LeO (Y2.l0 k y0 y1 y2 y3) (Y2.l0 (k+1) y0 y1 y2 y3))
 | 0=>fun _ _ _ _ r h=>by simp [Y2.l0] at h
 | k+1=>by
  have ih0:=Y2.mono_l k
  ·intro y0 y1 y2 y3
   unfold Y2.l0
   repeat' first
   | (with_reducible exact ih0 _ _ _ _)
   | (with_reducible exact LeO.refl _)
   | (with_reducible exact LeO.none _)
   | (with_reducible refine LeO.ite ?_ ?_)
   | (with_reducible refine LeO.bind ?_ (fun _=>?_))
   | exact ih0 _ _ _ _
   | exact LeO.none _
   | refine LeO.ite ?_ ?_
   | refine LeO.bind ?_ (fun _=>?_)
theorem Y2.mono:∀ a0 a1 k,LeO (Y2.f k a0 a1) (Y2.f (k+1) a0 a1):=by
 intro a0 a1 k
 have ih0:=Y2.mono_l k
 unfold Y2.f
 repeat' first
   | (with_reducible exact ih0 _ _ _ _)
   | (with_reducible exact LeO.refl _)
   | (with_reducible exact LeO.none _)
   | (with_reducible refine LeO.ite ?_ ?_)
   | (with_reducible refine LeO.bind ?_ (fun _=>?_))
   | exact ih0 _ _ _ _
   | exact LeO.none _
   | refine LeO.ite ?_ ?_
   | refine LeO.bind ?_ (fun _=>?_)
set_option maxHeartbeats 8000000 in
set_option maxRecDepth 100000 in
theorem Y2.calls (k:Nat) (A0:Option Addr) (c0:Nat) (l0:List (S50)) (gb1:Nat) (A1_0:Option Addr) (c1_0:Nat) (l1_0:List ByteArray) (r:Int) (w:World) (hr0:Kd.C k50 w A0 l0.length l0) (hc0:l0.length≤c0) (hr1_0:Kd.C Kd.string w A1_0 l1_0.length l1_0) (hc1_0:l1_0.length≤c1_0) (hk1:w.heap[gb1]? = some (.cells #[.slice A1_0 l1_0.length c1_0] 29 (0,0))) (h:Y2.f k l0 l1_0=some r) :
  Calls Tryd.prog 22 #[.slice A0 l0.length c0,.func (.func 24) #[] #[.pointer (some ⟨gb1,0,none⟩)]] w fun e w'=>e = .returned (.int .i64 r)∧Below w.heap.size w w':=by
 have hu50:=Tryd.underlying50
 have HR0:=Aside0.mk hr0
 have HC0:=Aside0.mk hc0
 clear hr0 hc0
 have HR1_0:=Aside0.mk hr1_0
 have HC1_0:=Aside0.mk hc1_0
 clear hr1_0 hc1_0
 have BK61:=Aside0.mk hk1
 clear hk1
 have HB:=Aside0.mk (Below.refl w.heap.size w)
 have H:(Y2.l0 k l0 (l0.length:Int) 0 l1_0)=some r:=h
 clear h
 have H':=Aside0.mk H
 clear H
 go_enter Tryd.func22,Tryd.ntmps22
 go_wp2
 go_loopg [8] k (fun kq v8 w'=>∃ (x8_1:Int),v8 = .int .i64 x8_1∧Aside0 (Y2.l0 kq l0 (l0.length:Int) x8_1 l1_0=some r)∧Aside0 (kq≤k)∧Aside0 (w'.heap[gb1]? = some (.cells #[(.slice A1_0 l1_0.length c1_0)] 29 (0,0)))∧Aside0 (Below w.heap.size w w'))
 case atStart=>exact ⟨(0),(by first | rfl | (simp;done) | (simp [*];done) | (simp [bne];done)),H',⟨Nat.le_refl _⟩,⟨by (with_reducible repeat (first | refine blk_drewN ?_ _ | refine blk_drew ?_ | refine blk_alloc ?_ _));exact BK61.out⟩,⟨by repeat (first | (with_reducible first | exact HB.out | apply below_alloc | apply pw_below_drewN | apply below_drew1 | refine below_set ?_ GE61.out) | exact HB.out)⟩⟩
 case round =>
  clear H'
  try clear c1
  try clear p2
  obtain ⟨x8_1,rfl,HA,HK1,BK61,HB⟩:=hrel
  cases gk with
  | zero=>exact absurd HA.out (by simp [Y2.l0])
  | succ k1 =>
   have H:=HA.out
   clear HA
   simp only [Y2.l0] at H
   by_cases c3:x8_1<(l0.length:Int)
   ·rw [if_pos c3] at H
    have c3b0:decide (x8_1<(l0.length:Int))=true:=decide_eq_true c3
    clear c3
    by_cases c4:0≤x8_1
    ·rw [if_pos c4] at H
     have c4b0:decide (0≤x8_1)=true:=decide_eq_true c4
     clear c4
     by_cases c5:x8_1<(l0.length:Int)
     ·rw [if_pos c5] at H
      have c5b0:decide (x8_1<(l0.length:Int))=true:=decide_eq_true c5
      clear c5
      replace H:=Option.bind_eq_some_iff.mp H
      obtain ⟨t220,A60,H⟩:=H
      replace H:(if t220=true then (some x8_1) else (Y2.l0 k1 l0 (l0.length:Int) (wrap64 (x8_1+1)) l1_0))=some r:=H
      have A6:=Aside0.mk A60
      clear A60
      by_cases c7:t220=true
      ·subst c7
       have H1:(some x8_1)=some r:=by rw [if_pos rfl] at H;exact H
       clear H
       have H:=H1
       clear H1
       obtain rfl:=Option.some.inj H
       have p219:0≤(x8_1:Int):=of_decide_eq_true (by first | (with_reducible assumption) | assumption)
       have q219:x8_1<(l0.length:Int):=of_decide_eq_true (by first | (with_reducible assumption) | assumption)
       obtain ⟨ad219,e219,hx219_0,hx219_1⟩:=at_T50 HR0.out x8_1 p219 q219
       cases e219
       replace hx219_0:=(HB.out.cell (World.block_lt_of_cell? w _ hx219_0)).trans hx219_0
       replace hx219_1:=(HB.out.cell (World.block_lt_of_cell? w _ hx219_1)).trans hx219_1
       replace p219:=eq_true p219
       replace q219:=eq_true q219
       go_wp2_with (first | (go_at_call 24;(with_reducible refine (Y34.calls ((rd_T50 l0 x8_1).f0) ((rd_T50 l0 x8_1).f1) gb1 A1_0 c1_0 l1_0 true _ ?side1 ?side2 ?side3 A6.out).mono ?_);(case side1=>repeat (first | exact (Kd.C_below HR1_0.out HB.out) | (with_reducible refine Kd.C_alloc ?_ _) | (with_reducible refine Kd.C_drewN ?_ _) | (with_reducible refine Kd.C_drew ?_)));(case side2=>exact HC1_0.out);(case side3=>(with_reducible repeat (first | refine blk_drewN ?_ _ | refine blk_drew ?_ | refine blk_alloc ?_ _));exact BK61.out);rintro e w8 ⟨rfl,hb⟩;have n0_:=Aside0.mk (blk_below (g:=gb1) (o:=.cells #[.slice A1_0 l1_0.length c1_0] 29 (0,0)) (by (with_reducible repeat (first | refine blk_drewN ?_ _ | refine blk_drew ?_ | refine blk_alloc ?_ _));exact BK61.out) hb);have n1_:=Aside0.mk (below_step (by repeat (first | (with_reducible first | exact HB.out | apply below_alloc | apply pw_below_drewN | apply below_drew1 | refine below_set ?_ GE61.out) | exact HB.out)) hb);clear BK61;clear HB;have BK61:=n0_;have HB:=n1_;clear n0_ n1_;(try clear hb);(try clear hb2);(try clear hk);(try clear hi)))
       go_ret
       exact ⟨by first | rfl | (simp [errW_none,errW_some] <;> rfl) | (simp [*,errW_none,errW_some] <;> rfl),by repeat (first | (with_reducible first | exact HB.out | apply below_alloc | apply pw_below_drewN | apply below_drew1 | refine below_set ?_ GE61.out) | exact HB.out)⟩
      ·replace c7:=Bool.eq_false_iff.mpr c7
       subst c7
       have H1:(Y2.l0 k1 l0 (l0.length:Int) (wrap64 (x8_1+1)) l1_0)=some r:=by rw [if_neg (show ¬ (false=true) by decide)] at H;exact H
       clear H
       have H:=H1
       clear H1
       have H':=Aside0.mk H
       clear H
       have p219:0≤(x8_1:Int):=of_decide_eq_true (by first | (with_reducible assumption) | assumption)
       have q219:x8_1<(l0.length:Int):=of_decide_eq_true (by first | (with_reducible assumption) | assumption)
       obtain ⟨ad219,e219,hx219_0,hx219_1⟩:=at_T50 HR0.out x8_1 p219 q219
       cases e219
       replace hx219_0:=(HB.out.cell (World.block_lt_of_cell? w _ hx219_0)).trans hx219_0
       replace hx219_1:=(HB.out.cell (World.block_lt_of_cell? w _ hx219_1)).trans hx219_1
       replace p219:=eq_true p219
       replace q219:=eq_true q219
       go_wp2_with (first | (go_at_call 24;(with_reducible refine (Y34.calls ((rd_T50 l0 x8_1).f0) ((rd_T50 l0 x8_1).f1) gb1 A1_0 c1_0 l1_0 false _ ?side1 ?side2 ?side3 A6.out).mono ?_);(case side1=>repeat (first | exact (Kd.C_below HR1_0.out HB.out) | (with_reducible refine Kd.C_alloc ?_ _) | (with_reducible refine Kd.C_drewN ?_ _) | (with_reducible refine Kd.C_drew ?_)));(case side2=>exact HC1_0.out);(case side3=>(with_reducible repeat (first | refine blk_drewN ?_ _ | refine blk_drew ?_ | refine blk_alloc ?_ _));exact BK61.out);rintro e w9 ⟨rfl,hb⟩;have n0_:=Aside0.mk (blk_below (g:=gb1) (o:=.cells #[.slice A1_0 l1_0.length c1_0] 29 (0,0)) (by (with_reducible repeat (first | refine blk_drewN ?_ _ | refine blk_drew ?_ | refine blk_alloc ?_ _));exact BK61.out) hb);have n1_:=Aside0.mk (below_step (by repeat (first | (with_reducible first | exact HB.out | apply below_alloc | apply pw_below_drewN | apply below_drew1 | refine below_set ?_ GE61.out) | exact HB.out)) hb);clear BK61;clear HB;have BK61:=n0_;have HB:=n1_;clear n0_ n1_;(try clear hb);(try clear hb2);(try clear hk);(try clear hi)))
       go_roundg k1
       case measure=>have:=HK1.out;omega
       case rel=>exact ⟨(wrap64 (x8_1+1)),(by first | rfl | (simp;done) | (simp [*];done) | (simp [bne];done)),H',⟨by have:=HK1.out;omega⟩,⟨by (with_reducible repeat (first | refine blk_drewN ?_ _ | refine blk_drew ?_ | refine blk_alloc ?_ _));exact BK61.out⟩,⟨by repeat (first | (with_reducible first | exact HB.out | apply below_alloc | apply pw_below_drewN | apply below_drew1 | refine below_set ?_ GE61.out) | exact HB.out)⟩⟩
     ·rw [if_neg c5] at H
      exact absurd H (by simp)
    ·rw [if_neg c4] at H
     exact absurd H (by simp)
   ·rw [if_neg c3] at H
    have c3b0:decide (x8_1<(l0.length:Int))=false:=decide_eq_false c3
    clear c3
    obtain rfl:=Option.some.inj H
    go_wp2
    go_ret
    exact ⟨by first | rfl | (simp [errW_none,errW_some] <;> rfl) | (simp [*,errW_none,errW_some] <;> rfl),by repeat (first | (with_reducible first | exact HB.out | apply below_alloc | apply pw_below_drewN | apply below_drew1 | refine below_set ?_ GE61.out) | exact HB.out)⟩

end Go.Proofs.YtkaojnmgflaldaaDoor.P
