/- Every text: the program's ActRead and the reference's read the same. No condition. (Part 1 of 5: written by programs of this workplace and by hand, merged.) -/
import Derived.Test.YtkaojnmgflaldaaDoorProg
import Derived.Below
import Derived.Deep.Draws
import Derived.Deep.AppendLies
import Derived.Maps.AppendAt
import Derived.OwnWalk
import Derived.Laws.BytesArg
import Derived.Laws.MakeOwn
import Derived.Laws.OwnMore
import Derived.Deep.OwnRows
import Derived.Tactics
import Derived.Lib.ConvBytes
import Derived.Laws.Slices
import Derived.WalkKit
import Derived.KernelRfl
import Derived.RowKit3
import Derived.Deep.LoopGhost
import Derived.Deep.QuietTactic
import Derived.BigQuiet
import Derived.WideLaws
import Derived.Deep.DeepCutAuto
import Derived.Deep.CutBlock
import Derived.Deep.RegionHeld3
import Derived.Laws.Rows
import Derived.Lib.AppendStr
import Derived.ArgAppend
import Derived.Laws.IdiomCopy
import Derived.OrdersHeld
import Derived.Laws.BitsLemmas
import Derived.RowKit
import Derived.Lib.Bytealg
import Derived.Lib.Walk
import Derived.Test.YtkaojnmgflaldaaDoorMFnExactActReadWWords
import Derived.Test.YtkaojnmgflaldaaDoorMFnExactActReadWLast
import Derived.Test.YtkaojnmgflaldaaDoorMFnExactActReadWTab
import Derived.Test.YtkaojnmgflaldaaDoorMFnExactActReadWApart
import Derived.Test.YtkaojnmgflaldaaDoorMFnExactActReadWFoot
import Derived.Test.YtkaojnmgflaldaaDoorMFnExactActReadWKept
import Derived.Test.YtkaojnmgflaldaaDoorMFnExactActReadWShare
import Derived.Test.YtkaojnmgflaldaaDoorMFnExactActReadWN
import Derived.Laws.StructEq
import Derived.Test.YtkaojnmgflaldaaDoorMFnExactActReadWRepsOne
import Derived.Test.YtkaojnmgflaldaaDoorMFnExactActReadWInv
import Derived.Test.YtkaojnmgflaldaaDoorMFnExactActReadWGuard
import Derived.Test.YtkaojnmgflaldaaDoorMFnExactActReadWMore
set_option linter.unusedVariables false
set_option linter.unusedSimpArgs false

namespace Go.Proofs.YtkaojnmgflaldaaDoor.P
open Go.RowKit Go.Proofs.YtkaojnmgflaldaaDoorW.PrintWords Go.Proofs.YtkaojnmgflaldaaDoorW.PrintLast Go.Proofs.YtkaojnmgflaldaaDoorW.PrintMore
attribute [local go_sem] max2_int min2_int max_two min_two max_three min_three max_four min_four   -- for this text's walks alone
set_option linter.unusedVariables false
set_option linter.unusedSimpArgs false

theorem sa_ {α:Type _} (l:List α) (i:Nat) (a:α):l.toArray.setIfInBounds i a=(l.set i a).toArray:=List.setIfInBounds_toArray ..
theorem s0_ {α:Type _} (x:α) (l:List α) (a:α):(x :: l).set 0 a=a :: l:=List.set_cons_zero ..
theorem ss_ {α:Type _} (x:α) (l:List α) (n:Nat) (a:α):(x :: l).set (n+1) a=x :: l.set n a:=List.set_cons_succ ..
section
variable {P:Program} {ops:Array Oper} {Q:Exit→Act→World→Prop}
/-- A call of a function value, as a step of a region that draws. -/
theorem goesD_ {oi:Oper} {N:Option Tmp} {a:Act} {w:World} {K:Act→World→Prop} {f:FuncId} {fn:Func} {as_:Array Operand} {ts:Array TypeId} {x:Operand} (hf:P.funcs[f]? = some fn) (hname:(fn.name == "runtime.NumGoroutine")=false) (hb:fn.body.isSome=true) (args:Array Value)
    (hw:Region.wanted oi (yielded ops a.tmps)=true) (hN:oi.dst=N) (hop:oi.op = .call { callee:=.value x,args:=as_,argTypes:=ts }) (hx:a.eval x = .func (.func f) #[] #[]) (hargs:as_.map a.eval=args)
    (h:Calls P f args w fun e w'=>∃ v,e = .returned v∧K (a.put N v) w'):if Region.wanted oi (yielded ops a.tmps)=true then Oper.wp P oi a w K Q else K (a.put N undef) w:=by
  refine call_ f args hw hN ?_ h
  have he:=enters_ hf hname hb args w
  unfold execOp
  simp [hop,resolve,Deferred.ofValue,invoke,hx,hargs,he]
/-- The same for a closure: what it captured stands behind the arguments. -/
theorem goesC_ {oi:Oper} {N:Option Tmp} {a:Act} {w:World} {K:Act→World→Prop} {f:FuncId} {fn:Func} {as_:Array Operand} {ts:Array TypeId} {x:Operand} {cs:Array Value} (hf:P.funcs[f]? = some fn) (hname:(fn.name == "runtime.NumGoroutine")=false) (hb:fn.body.isSome=true) (args:Array Value)
    (hw:Region.wanted oi (yielded ops a.tmps)=true) (hN:oi.dst=N) (hop:oi.op = .call { callee:=.value x,args:=as_,argTypes:=ts }) (hx:a.eval x = .func (.func f) #[] cs) (hargs:as_.map a.eval ++ cs=args)
    (h:Calls P f args w fun e w'=>∃ v,e = .returned v∧K (a.put N v) w'):if Region.wanted oi (yielded ops a.tmps)=true then Oper.wp P oi a w K Q else K (a.put N undef) w:=by
  refine call_ f args hw hN ?_ h
  have he:=enters_ hf hname hb args w
  unfold execOp
  simp [hop,resolve,Deferred.ofValue,invoke,hx,hargs,he]
end



def errW:Option Int→Value
  | none=>.nilIface
  | some c=>.iface 0 (.int .i64 c)
theorem errW_none:errW none = .nilIface:=rfl
theorem errW_some (c:Int):errW (some c) = .iface 0 (.int .i64 c):=rfl

theorem info9:(Tryd.prog.info? 9).map (fun i=>(i.zero,i.size,i.bytes))=some (some (.string ⟨#[]⟩),1,16):=by kernel_rfl
-- the values' own types
/-! #### struct type 50 -/
structure S50 where
  f0:ByteArray
  f1:ByteArray
def z50:S50:=⟨(⟨#[]⟩:ByteArray),(⟨#[]⟩:ByteArray)⟩
def k50:Kd S50:=Kd.iso (Kd.pair Kd.string Kd.string) (fun x:S50=>(x.f0,x.f1))
theorem k50_open {w:World} {x:S50} {cs:List Value} (h:k50.K w x cs):cs=[.string x.f0,.string x.f1]:=by
  obtain ⟨_,_,rfl,rfl,rfl⟩:=h
  exact rfl
theorem k50_mkM (w:World) (base:Nat) (ok:Nat→Prop) (x:S50)  : k50.M w base ok x [.string x.f0,.string x.f1]:=⟨[.string x.f0],[.string x.f1],rfl,rfl,rfl⟩
def rd_T50 (xs:List S50) (i:Int):S50:=xs.getD i.toNat z50
theorem at_T50 {w:World} {A:Option Addr} {n:Nat} {xs:List S50} (h:Kd.C k50 w A n xs) (i:Int) (h0:0≤i) (h1:i<n):∃ ad , A=some ad∧w.cell? (ad.add (i.toNat*2))=some (.string (rd_T50 xs i).f0)∧w.cell? ⟨(ad.add (i.toNat*2)).block,(ad.add (i.toNat*2)).off+1,none⟩=some (.string (rd_T50 xs i).f1):=by
  obtain ⟨ad,c,e,_,hK,hc0⟩:=Kd.C_get h z50 i h0 h1
  have hc:∀ j u,c[j]? = some u→w.cell? (ad.add (i.toNat*2+j))=some u:=hc0
  obtain rfl:=k50_open hK
  exact ⟨ad,e,hc 0 _ rfl,by rw [← add_field _ _ 1 (by omega)];exact hc 1 _ rfl⟩


/-! ### Y13: function 7 -/
def Y13.l0:Nat→ByteArray→Int→List ByteArray→Int→Int→Option (List ByteArray)
 | 0,_,_,_,_,_=>none
 | k+1,x0,x1,x5,x6,x7=>if x7<(x0.size:Int) then (if 0≤x7 then (if (bt x0 x7)=x1 then (if 0≤x6 then (if x6≤x7 then (if x7≤(x0.size:Int) then (if x5.length<8796093022208 then (Y13.l0 k x0 x1 (x5 ++ [x0.extract (x6:Int).toNat (x7:Int).toNat]) (wrap64 (x7+1)) (wrap64 (x7+1))) else (none)) else (none)) else (none)) else (none)) else (Y13.l0 k x0 x1 x5 x6 (wrap64 (x7+1)))) else (none)) else (if 0≤x6 then (if x6≤(x0.size:Int) then (if x5.length<8796093022208 then (some (x5 ++ [x0.extract (x6:Int).toNat x0.size])) else (none)) else (none)) else (none))
def Y13.f (k:Nat) (a0:ByteArray) (a1:Int):Option (List ByteArray):=Y13.l0 k a0 a1 (([]:List ByteArray)) 0 0
theorem Y13.mono_l:∀ k,(∀ y0 y1 y2 y3 y4,LeO (Y13.l0 k y0 y1 y2 y3 y4) (Y13.l0 (k+1) y0 y1 y2 y3 y4))
 | 0=>fun _ _ _ _ _ r h=>by simp [Y13.l0] at h
 | k+1=>by
  have ih0:=Y13.mono_l k
  ·intro y0 y1 y2 y3 y4
   unfold Y13.l0
   repeat' first
   | (with_reducible exact ih0 _ _ _ _ _)
   | (with_reducible exact LeO.refl _)
   | (with_reducible exact LeO.none _)
   | (with_reducible refine LeO.ite ?_ ?_)
   | (with_reducible refine LeO.bind ?_ (fun _=>?_))
   | exact ih0 _ _ _ _ _
   | exact LeO.none _
   | refine LeO.ite ?_ ?_
   | refine LeO.bind ?_ (fun _=>?_)
theorem Y13.mono:∀ a0 a1 k,LeO (Y13.f k a0 a1) (Y13.f (k+1) a0 a1):=by
 intro a0 a1 k
 have ih0:=Y13.mono_l k
 unfold Y13.f
 repeat' first
   | (with_reducible exact ih0 _ _ _ _ _)
   | (with_reducible exact LeO.refl _)
   | (with_reducible exact LeO.none _)
   | (with_reducible refine LeO.ite ?_ ?_)
   | (with_reducible refine LeO.bind ?_ (fun _=>?_))
   | exact ih0 _ _ _ _ _
   | exact LeO.none _
   | refine LeO.ite ?_ ?_
   | refine LeO.bind ?_ (fun _=>?_)
set_option maxHeartbeats 8000000 in
set_option maxRecDepth 100000 in
theorem Y13.calls (k:Nat) (a0:ByteArray) (a1:Int) (r:List ByteArray) (w:World) (h:Y13.f k a0 a1=some r) :
  Calls Tryd.prog 7 #[.string a0,.int .u8 a1] w fun e w'=>∃ v0_:Value,e = .returned (v0_)∧Kd.R Kd.string 9 w' w.heap.size (fun _=>True) v0_ r∧Below w.heap.size w w':=by
 have HB:=Aside0.mk (Below.refl w.heap.size w)
 have H:(Y13.l0 k a0 a1 (([]:List ByteArray)) 0 0)=some r:=h
 clear h
 obtain ⟨y101,hy101⟩:∃ y_:List ByteArray,y_=(([]:List ByteArray)):=⟨_,rfl⟩
 replace H:(Y13.l0 k a0 a1 y101 0 0)=some r:=by first | (rw [hy101];with_reducible exact H) | (have H2_:=(Option.bind_some _ _).symm.trans H;rw [hy101];with_reducible exact H2_) | (have H2_:=(Option.bind_some _ _).symm.trans H;with_reducible exact H2_) | with_reducible exact H | (rw [hy101];exact H) | exact H
 have Ny101:=Aside0.mk hy101
 clear hy101
 have H':=Aside0.mk H
 clear H
 go_enter Tryd.func7,Tryd.ntmps7
 go_wp2_with (first | ((with_reducible refine gate_dst (N:=8) rfl ?_);refine Kd.R_lit Kd.string _ 9 ?hg (N:=8) ?hd (xs:=([]:List ByteArray)) (inner:=[]) (ok:=fun _=>True) (okp:=fun _=>True) ?hr ?hp (fun _ hk=>hk) trivial (Below.refl _ _) (Nat.le_refl _) (by simp) ?_;(case hd=>rfl);(case hg=>rfl);(case hr=>first | (go_simp;done) | (go_simp;rfl));(case hp=>exact (Reps.none _ _));intro v102 w3 ho4 hb hg_ hnew_;clear hg_ hnew_;(first | rw [← Ny101.out] at ho4 | (simp only [Int.reduceToNat] at ho4;rw [← Ny101.out] at ho4));have n0_:=Aside0.mk (Kd.R_lower ho4 (below_size (by repeat (first | (with_reducible first | exact HB.out | apply below_alloc | apply pw_below_drewN | apply below_drew1) | exact HB.out))));have n1_:=Aside0.mk (below_step (by repeat (first | (with_reducible first | exact HB.out | apply below_alloc | apply pw_below_drewN | apply below_drew1) | exact HB.out)) hb);clear HB;have HO103:=n0_;have HB:=n1_;clear n0_ n1_;clear hb ho4))
 go_loopg [5,6,7] k (fun kq v5 v6 v7 w'=>∃ (x5_1:List ByteArray) (x6_1:Int) (x7_1:Int),v6 = .int .i64 x6_1∧v7 = .int .i64 x7_1∧Aside0 (Y13.l0 kq a0 a1 x5_1 x6_1 x7_1=some r)∧Aside0 (kq≤k)∧Aside0 (Kd.R Kd.string 9 w' w.heap.size (fun _=>True) v5 x5_1)∧Aside0 (Below w.heap.size w w'))
 case atStart=>exact ⟨(y101),(0),(0),(by first | rfl | (simp;done) | (simp [*];done) | (simp [bne];done)),(by first | rfl | (simp;done) | (simp [*];done) | (simp [bne];done)),H',⟨Nat.le_refl _⟩,⟨by (with_reducible repeat (first | apply Kd.R_alloc | apply Kd.R_drewN | apply Kd.R_drew));exact HO103.out⟩,⟨by repeat (first | (with_reducible first | exact HB.out | apply below_alloc | apply pw_below_drewN | apply below_drew1) | exact HB.out)⟩⟩
 case round =>
  clear H'
  try clear p2
  obtain ⟨x5_1,x6_1,x7_1,rfl,rfl,HA,HK1,HO_5,HB⟩:=hrel
  cases gk with
  | zero=>exact absurd HA.out (by simp [Y13.l0])
  | succ k1 =>
   have H:=HA.out
   clear HA
   simp only [Y13.l0] at H
   by_cases c5:x7_1<(a0.size:Int)
   ·rw [if_pos c5] at H
    have c5b0:decide (x7_1<(a0.size:Int))=true:=decide_eq_true c5
    clear c5
    by_cases c6:0≤x7_1
    ·rw [if_pos c6] at H
     have c6b0:decide (0≤x7_1)=true:=decide_eq_true c6
     clear c6
     by_cases c8:(bt a0 x7_1)=a1
     ·rw [if_pos c8] at H
      have c8b0:((bt a0 x7_1) == a1)=true:=beq_iff_eq.mpr c8
      have c8b1:((bt a0 x7_1) != a1)=false:=bne_eq_false_iff_eq.mpr c8
      clear c8
      by_cases c9:0≤x6_1
      ·rw [if_pos c9] at H
       have c9b0:=eq_true c9
       have c9b1:decide (0≤x6_1)=true:=decide_eq_true c9
       clear c9
       by_cases c10:x6_1≤x7_1
       ·rw [if_pos c10] at H
        have c10b0:=eq_true c10
        have c10b1:decide (x6_1≤x7_1)=true:=decide_eq_true c10
        clear c10
        by_cases c11:x7_1≤(a0.size:Int)
        ·rw [if_pos c11] at H
         have c11b0:=eq_true c11
         have c11b1:decide (x7_1≤(a0.size:Int))=true:=decide_eq_true c11
         clear c11
         by_cases c12:x5_1.length<8796093022208
         ·rw [if_pos c12] at H
          have LMc12:=Aside0.mk c12
          clear c12
          obtain ⟨y107,hy107⟩:∃ y_:List ByteArray,y_=(x5_1 ++ [a0.extract (x6_1:Int).toNat (x7_1:Int).toNat]):=⟨_,rfl⟩
          replace H:(Y13.l0 k1 a0 a1 y107 (wrap64 (x7_1+1)) (wrap64 (x7_1+1)))=some r:=by first | (rw [hy107];with_reducible exact H) | (have H2_:=(Option.bind_some _ _).symm.trans H;rw [hy107];with_reducible exact H2_) | (have H2_:=(Option.bind_some _ _).symm.trans H;with_reducible exact H2_) | with_reducible exact H | (rw [hy107];exact H) | exact H
          have Ny107:=Aside0.mk hy107
          clear hy107
          have H':=Aside0.mk H
          clear H
          have p7:0≤(x7_1:Int):=of_decide_eq_true (by first | (with_reducible assumption) | assumption)
          have q7:x7_1<(a0.size:Int):=of_decide_eq_true (by first | (with_reducible assumption) | assumption)
          have hx7:=bt_at a0 x7_1
          replace p7:=eq_true p7
          replace q7:=eq_true q7
          go_wp2_with (first | ((with_reducible refine gate_builtin (b:=.append) (xs:=#[.tmp 20,.tmp 25]) rfl ?_);at_builtin;refine Kd.R_append Kd.string (w0:=w) w.heap.size rfl (.tmp 20) (.tmp 25) 29 9 (.string ⟨#[]⟩) 16 rfl Tryd.underlying29 info9 rfl (by decide) (by omega) u5 x5_1 (a0.extract (x6_1:Int).toNat (x7_1:Int).toNat) [.string (a0.extract (x6_1:Int).toNat (x7_1:Int).toNat)] (fun _=>True) (fun _=>False) rfl rfl ?aP (fun _ hk=>hk.elim) ?aF ?aO ?aB ?aS ?aL ?_;(case aP=>exact rfl);(case aB=>exact (by repeat (first | (with_reducible first | exact HB.out | apply below_alloc | apply pw_below_drewN | apply below_drew1) | exact HB.out)));(case aF=>exact (fun _ _=>trivial));(case aO=>exact (by (with_reducible repeat (first | apply Kd.R_alloc | apply Kd.R_drewN | apply Kd.R_drew));exact HO_5.out));(case aS=>exact (below_size (by repeat (first | (with_reducible first | exact HB.out | apply below_alloc | apply pw_below_drewN | apply below_drew1) | exact HB.out))));(case aL=>have:=LMc12.out;omega);intro v108 w13 ho hb hg hat;rw [← Ny107.out] at ho;have n0_:=Aside0.mk (hb);have n1_:=Aside0.mk (ho);clear HB;clear HO_5;have HB:=n0_;have HO109:=n1_;clear n0_ n1_;clear ho hb hg hat))
          go_roundg k1
          case measure=>have:=HK1.out;omega
          case rel=>exact ⟨(y107),(wrap64 (x7_1+1)),(wrap64 (x7_1+1)),(by first | rfl | (simp;done) | (simp [*];done) | (simp [bne];done)),(by first | rfl | (simp;done) | (simp [*];done) | (simp [bne];done)),H',⟨by have:=HK1.out;omega⟩,⟨by (with_reducible repeat (first | apply Kd.R_alloc | apply Kd.R_drewN | apply Kd.R_drew));exact HO109.out⟩,⟨by repeat (first | (with_reducible first | exact HB.out | apply below_alloc | apply pw_below_drewN | apply below_drew1) | exact HB.out)⟩⟩
         ·rw [if_neg c12] at H
          exact absurd H (by simp)
        ·rw [if_neg c11] at H
         exact absurd H (by simp)
       ·rw [if_neg c10] at H
        exact absurd H (by simp)
      ·rw [if_neg c9] at H
       exact absurd H (by simp)
     ·rw [if_neg c8] at H
      have c8b0:((bt a0 x7_1) == a1)=false:=beq_eq_false_iff_ne.mpr c8
      have c8b1:((bt a0 x7_1) != a1)=true:=bne_iff_ne.mpr c8
      have H':=Aside0.mk H
      clear H
      have p7:0≤(x7_1:Int):=of_decide_eq_true (by first | (with_reducible assumption) | assumption)
      have q7:x7_1<(a0.size:Int):=of_decide_eq_true (by first | (with_reducible assumption) | assumption)
      have hx7:=bt_at a0 x7_1
      replace p7:=eq_true p7
      replace q7:=eq_true q7
      go_wp2
      go_roundg k1
      case measure=>have:=HK1.out;omega
      case rel=>exact ⟨(x5_1),(x6_1),(wrap64 (x7_1+1)),(by first | rfl | (simp;done) | (simp [*];done) | (simp [bne];done)),(by first | rfl | (simp;done) | (simp [*];done) | (simp [bne];done)),H',⟨by have:=HK1.out;omega⟩,⟨by (with_reducible repeat (first | apply Kd.R_alloc | apply Kd.R_drewN | apply Kd.R_drew));exact HO_5.out⟩,⟨by repeat (first | (with_reducible first | exact HB.out | apply below_alloc | apply pw_below_drewN | apply below_drew1) | exact HB.out)⟩⟩
    ·rw [if_neg c6] at H
     exact absurd H (by simp)
   ·rw [if_neg c5] at H
    have c5b0:decide (x7_1<(a0.size:Int))=false:=decide_eq_false c5
    clear c5
    by_cases c14:0≤x6_1
    ·rw [if_pos c14] at H
     have c14b0:=eq_true c14
     have c14b1:decide (0≤x6_1)=true:=decide_eq_true c14
     clear c14
     by_cases c15:x6_1≤(a0.size:Int)
     ·rw [if_pos c15] at H
      have c15b0:=eq_true c15
      have c15b1:decide (x6_1≤(a0.size:Int))=true:=decide_eq_true c15
      clear c15
      by_cases c16:x5_1.length<8796093022208
      ·rw [if_pos c16] at H
       have LMc16:=Aside0.mk c16
       clear c16
       obtain ⟨y104,hy104⟩:∃ y_:List ByteArray,y_=(x5_1 ++ [a0.extract (x6_1:Int).toNat a0.size]):=⟨_,rfl⟩
       replace H:(some y104)=some r:=by first | (rw [hy104];with_reducible exact H) | (have H2_:=(Option.bind_some _ _).symm.trans H;rw [hy104];with_reducible exact H2_) | (have H2_:=(Option.bind_some _ _).symm.trans H;with_reducible exact H2_) | with_reducible exact H | (rw [hy104];exact H) | exact H
       have Ny104:=Aside0.mk hy104
       clear hy104
       obtain rfl:=Option.some.inj H
       go_wp2_with (first | ((with_reducible refine gate_builtin (b:=.append) (xs:=#[.tmp 29,.tmp 33]) rfl ?_);at_builtin;refine Kd.R_append Kd.string (w0:=w) w.heap.size rfl (.tmp 29) (.tmp 33) 29 9 (.string ⟨#[]⟩) 16 rfl Tryd.underlying29 info9 rfl (by decide) (by omega) u5 x5_1 (a0.extract (x6_1:Int).toNat a0.size) [.string (a0.extract (x6_1:Int).toNat a0.size)] (fun _=>True) (fun _=>False) rfl rfl ?aP (fun _ hk=>hk.elim) ?aF ?aO ?aB ?aS ?aL ?_;(case aP=>exact rfl);(case aB=>exact (by repeat (first | (with_reducible first | exact HB.out | apply below_alloc | apply pw_below_drewN | apply below_drew1) | exact HB.out)));(case aF=>exact (fun _ _=>trivial));(case aO=>exact (by (with_reducible repeat (first | apply Kd.R_alloc | apply Kd.R_drewN | apply Kd.R_drew));exact HO_5.out));(case aS=>exact (below_size (by repeat (first | (with_reducible first | exact HB.out | apply below_alloc | apply pw_below_drewN | apply below_drew1) | exact HB.out))));(case aL=>have:=LMc16.out;omega);intro v105 w17 ho hb hg hat;rw [← Ny104.out] at ho;have n0_:=Aside0.mk (hb);have n1_:=Aside0.mk (ho);clear HB;clear HO_5;have HB:=n0_;have HO106:=n1_;clear n0_ n1_;clear ho hb hg hat))
       go_ret
       exact ⟨_,by first | rfl | (simp [errW_none,errW_some] <;> rfl) | (simp [*,errW_none,errW_some] <;> rfl),by (with_reducible repeat (first | apply Kd.R_alloc | apply Kd.R_drewN | apply Kd.R_drew));exact HO106.out,by repeat (first | (with_reducible first | exact HB.out | apply below_alloc | apply pw_below_drewN | apply below_drew1) | exact HB.out)⟩
      ·rw [if_neg c16] at H
       exact absurd H (by simp)
     ·rw [if_neg c15] at H
      exact absurd H (by simp)
    ·rw [if_neg c14] at H
     exact absurd H (by simp)


/-! ### Y10: function 8 -/
mutual
def Y10.j0:Nat→ByteArray→Bool→Option (Int)
 | 0,_,_=>none
 | k+1,x0,x22=>if x22=true then (some (-1)) else (Y10.l0 k x0 0 0)
def Y10.l0:Nat→ByteArray→Int→Int→Option (Int)
 | 0,_,_,_=>none
 | k+1,x0,x3,x4=>if x4<(x0.size:Int) then (if 0≤x4 then (if (bt x0 x4)<48 then (Y10.j2 k x0 x3 x4 true) else (Y10.j2 k x0 x3 x4 (decide ((bt x0 x4)>57)))) else (none)) else (some x3)
def Y10.j2:Nat→ByteArray→Int→Int→Bool→Option (Int)
 | 0,_,_,_,_=>none
 | k+1,x0,x3,x4,x38=>if x38=true then (some (-1)) else (if 0≤x4 then (if x4<(x0.size:Int) then (Y10.l0 k x0 (wrap64 ((wrap64 (10*x3))+(((bt x0 x4)-48) % 256))) (wrap64 (x4+1))) else (none)) else (none))
end
def Y10.f (k:Nat) (a0:ByteArray):Option (Int):=if (a0.size:Int)<1 then (Y10.j0 k a0 true) else (if (a0.size:Int)>9 then (Y10.j0 k a0 true) else (if (a0.size:Int)>1 then (if 0<(a0.size:Int) then (Y10.j0 k a0 ((bt a0 0) == 48)) else (none)) else (Y10.j0 k a0 false)))
theorem Y10.mono_l:∀ k,(∀ y0 y1,LeO (Y10.j0 k y0 y1) (Y10.j0 (k+1) y0 y1))∧(∀ y0 y1 y2,LeO (Y10.l0 k y0 y1 y2) (Y10.l0 (k+1) y0 y1 y2))∧(∀ y0 y1 y2 y3,LeO (Y10.j2 k y0 y1 y2 y3) (Y10.j2 (k+1) y0 y1 y2 y3))
 | 0=>⟨fun _ _ r h=>by simp [Y10.j0] at h,fun _ _ _ r h=>by simp [Y10.l0] at h,fun _ _ _ _ r h=>by simp [Y10.j2] at h⟩
 | k+1=>by
  obtain ⟨ih0,ih1,ih2⟩:=Y10.mono_l k
  refine ⟨?_,?_,?_⟩
  ·intro y0 y1
   unfold Y10.j0
   repeat' first
   | (with_reducible exact ih0 _ _)
   | (with_reducible exact ih1 _ _ _)
   | (with_reducible exact ih2 _ _ _ _)
   | (with_reducible exact LeO.refl _)
   | (with_reducible exact LeO.none _)
   | (with_reducible refine LeO.ite ?_ ?_)
   | (with_reducible refine LeO.bind ?_ (fun _=>?_))
   | exact ih0 _ _
   | exact ih1 _ _ _
   | exact ih2 _ _ _ _
   | exact LeO.none _
   | refine LeO.ite ?_ ?_
   | refine LeO.bind ?_ (fun _=>?_)
  ·intro y0 y1 y2
   unfold Y10.l0
   repeat' first
   | (with_reducible exact ih0 _ _)
   | (with_reducible exact ih1 _ _ _)
   | (with_reducible exact ih2 _ _ _ _)
   | (with_reducible exact LeO.refl _)
   | (with_reducible exact LeO.none _)
   | (with_reducible refine LeO.ite ?_ ?_)
   | (with_reducible refine LeO.bind ?_ (fun _=>?_))
   | exact ih0 _ _
   | exact ih1 _ _ _
   | exact ih2 _ _ _ _
   | exact LeO.none _
   | refine LeO.ite ?_ ?_
   | refine LeO.bind ?_ (fun _=>?_)
  ·intro y0 y1 y2 y3
   unfold Y10.j2
   repeat' first
   | (with_reducible exact ih0 _ _)
   | (with_reducible exact ih1 _ _ _)
   | (with_reducible exact ih2 _ _ _ _)
   | (with_reducible exact LeO.refl _)
   | (with_reducible exact LeO.none _)
   | (with_reducible refine LeO.ite ?_ ?_)
   | (with_reducible refine LeO.bind ?_ (fun _=>?_))
   | exact ih0 _ _
   | exact ih1 _ _ _
   | exact ih2 _ _ _ _
   | exact LeO.none _
   | refine LeO.ite ?_ ?_
   | refine LeO.bind ?_ (fun _=>?_)
theorem Y10.mono:∀ a0 k,LeO (Y10.f k a0) (Y10.f (k+1) a0):=by
 intro a0 k
 obtain ⟨ih0,ih1,ih2⟩:=Y10.mono_l k
 unfold Y10.f
 repeat' first
   | (with_reducible exact ih0 _ _)
   | (with_reducible exact ih1 _ _ _)
   | (with_reducible exact ih2 _ _ _ _)
   | (with_reducible exact LeO.refl _)
   | (with_reducible exact LeO.none _)
   | (with_reducible refine LeO.ite ?_ ?_)
   | (with_reducible refine LeO.bind ?_ (fun _=>?_))
   | exact ih0 _ _
   | exact ih1 _ _ _
   | exact ih2 _ _ _ _
   | exact LeO.none _
   | refine LeO.ite ?_ ?_
   | refine LeO.bind ?_ (fun _=>?_)
set_option maxHeartbeats 8000000 in
set_option maxRecDepth 100000 in
theorem Y10.calls (k:Nat) (a0:ByteArray) (r:Int) (w:World) (h:Y10.f k a0=some r) :
  Calls Tryd.prog 8 #[.string a0] w fun e w'=>e = .returned (.int .i64 r)∧Drawn0 w w':=by
 have H:(if (a0.size:Int)<1 then (Y10.j0 k a0 true) else (if (a0.size:Int)>9 then (Y10.j0 k a0 true) else (if (a0.size:Int)>1 then (if 0<(a0.size:Int) then (Y10.j0 k a0 ((bt a0 0) == 48)) else (none)) else (Y10.j0 k a0 false))))=some r:=h
 clear h
 have HC2:=Aside0.mk H
 clear H
 go_enter Tryd.func8,Tryd.ntmps8
 go_upto_region 1 with (fail)
 go_cut [22] (fun v22 wc=>∃ (kq:Nat) (x22_1:Bool),v22 = .bool x22_1∧Aside0 (Y10.j0 kq a0 x22_1=some r)∧Aside0 (kq≤k)∧Drawn0 w wc)
 case first =>
  have H:=HC2.out
  clear HC2
  by_cases c3:(a0.size:Int)<1
  ·rw [if_pos c3] at H
   have c3b0:decide ((a0.size:Int)<1)=true:=decide_eq_true c3
   have c3b1:decide (a0.size<1)=true:=decide_eq_true (by omega)
   clear c3
   (first | rw [c3b0] | (simp only [i64_w,i32_w];rw [c3b0]) | skip)
   have H':=Aside0.mk H
   clear H
   go_wp2
   go_meet
   case rel=>exact ⟨_,(true),(by first | rfl | (simp;done) | (simp [*];done) | (simp [bne];done)),H',⟨by first | omega | exact Nat.le_refl _⟩,by repeat (first | exact Drawn0.refl _ | apply Drawn0.step)⟩
  ·rw [if_neg c3] at H
   have c3b0:decide ((a0.size:Int)<1)=false:=decide_eq_false c3
   have c3b1:decide (a0.size<1)=false:=decide_eq_false (by omega)
   clear c3
   (first | rw [c3b0] | (simp only [i64_w,i32_w];rw [c3b0]) | skip)
   by_cases c4:(a0.size:Int)>9
   ·rw [if_pos c4] at H
    have c4b0:decide (9<(a0.size:Int))=true:=decide_eq_true c4
    have c4b1:decide (9<a0.size)=true:=decide_eq_true (by omega)
    clear c4
    have H':=Aside0.mk H
    clear H
    go_wp2
    go_meet
    case rel=>exact ⟨_,(true),(by first | rfl | (simp;done) | (simp [*];done) | (simp [bne];done)),H',⟨by first | omega | exact Nat.le_refl _⟩,by repeat (first | exact Drawn0.refl _ | apply Drawn0.step)⟩
   ·rw [if_neg c4] at H
    have c4b0:decide (9<(a0.size:Int))=false:=decide_eq_false c4
    have c4b1:decide (9<a0.size)=false:=decide_eq_false (by omega)
    clear c4
    by_cases c5:(a0.size:Int)>1
    ·rw [if_pos c5] at H
     have c5b0:decide (1<(a0.size:Int))=true:=decide_eq_true c5
     have c5b1:decide (1<a0.size)=true:=decide_eq_true (by omega)
     clear c5
     by_cases c6:0<(a0.size:Int)
     ·rw [if_pos c6] at H
      have c6b0:decide (0<(a0.size:Int))=true:=decide_eq_true c6
      have c6b1:decide (0<a0.size)=true:=decide_eq_true (by omega)
      clear c6
      have H':=Aside0.mk H
      clear H
      have p7:0≤(0:Int):=(by omega)
      have q7:0<a0.size:=(by have:(0:Int)<(a0.size:Int):=of_decide_eq_true (by first | (with_reducible assumption) | assumption);omega)
      have hx7:∀ h:0<a0.size,((a0[0]'h).toNat:Int)=bt a0 0:=bt_at a0 0
      clear p7
      have qi7:(0<(a0.size:Int))=True:=eq_true (of_decide_eq_true (by first | (with_reducible assumption) | assumption))
      replace q7:=eq_true q7
      go_wp2
      go_meet
      case rel=>exact ⟨_,(((bt a0 0) == 48)),(by first | rfl | (simp;done) | (simp [*];done) | (simp [bne];done)),H',⟨by first | omega | exact Nat.le_refl _⟩,by repeat (first | exact Drawn0.refl _ | apply Drawn0.step)⟩
     ·rw [if_neg c6] at H
      exact absurd H (by simp)
    ·rw [if_neg c5] at H
     have c5b0:decide (1<(a0.size:Int))=false:=decide_eq_false c5
     have c5b1:decide (1<a0.size)=false:=decide_eq_false (by omega)
     clear c5
     have H':=Aside0.mk H
     clear H
     go_wp2
     go_meet
     case rel=>exact ⟨_,(false),(by first | rfl | (simp;done) | (simp [*];done) | (simp [bne];done)),H',⟨by first | omega | exact Nat.le_refl _⟩,by repeat (first | exact Drawn0.refl _ | apply Drawn0.step)⟩
 case rest =>
  clear HC2
  try clear p2
  try clear c3
  try clear c3b0
  try clear c3b1
  try clear c4
  try clear c4b0
  try clear c4b1
  try clear c5
  try clear c5b0
  try clear c5b1
  try clear c6
  try clear c6b0
  try clear c6b1
  try clear p7
  try clear q7
  try clear hx7
  try clear qi7
  try clear p7
  try clear q7
  obtain ⟨kq,x22_1,rfl,HA,HJ1,⟨mc1,rfl⟩⟩:=hcut
  cases kq with
  | zero=>exact absurd HA.out (by simp [Y10.j0])
  | succ kj1 =>
   have H:=HA.out
   clear HA
   simp only [Y10.j0] at H
   by_cases c8:x22_1=true
   ·subst c8
    have H1:(some (-1))=some r:=by rw [if_pos rfl] at H;exact H
    clear H
    have H:=H1
    clear H1
    obtain rfl:=Option.some.inj H
    go_wp2
    go_ret
    exact ⟨by first | rfl | (simp;done) | (simp [*];done) | (simp [bne];done),by repeat (first | exact Drawn0.refl _ | apply Drawn0.step)⟩
   ·replace c8:=Bool.eq_false_iff.mpr c8
    subst c8
    have H1:(Y10.l0 kj1 a0 0 0)=some r:=by rw [if_neg (show ¬ (false=true) by decide)] at H;exact H
    clear H
    have H:=H1
    clear H1
    have H':=Aside0.mk H
    clear H
    go_wp2
    go_loopg [3,4] kj1 (fun kq v3 v4 w'=>∃ (x3_2:Int) (x4_2:Int),v3 = .int .i64 x3_2∧v4 = .int .i64 x4_2∧Aside0 (Y10.l0 kq a0 x3_2 x4_2=some r)∧Aside0 (kq≤kj1)∧Drawn0 w w')
    case atStart=>exact ⟨(0),(0),(by first | rfl | (simp;done) | (simp [*];done) | (simp [bne];done)),(by first | rfl | (simp;done) | (simp [*];done) | (simp [bne];done)),H',⟨Nat.le_refl _⟩,by repeat (first | exact Drawn0.refl _ | apply Drawn0.step)⟩
    case round =>
     clear H'
     try clear c1
     try clear p2
     try clear c3
     try clear c3b0
     try clear c3b1
     try clear c4
     try clear c4b0
     try clear c4b1
     try clear c5
     try clear c5b0
     try clear c5b1
     try clear c6
     try clear c6b0
     try clear c6b1
     try clear p7
     try clear q7
     try clear hx7
     try clear qi7
     try clear c8
     try clear p2
     try clear p7
     try clear q7
     obtain ⟨x3_2,x4_2,rfl,rfl,HA,HK2,⟨m2,rfl⟩⟩:=hrel
     cases gk with
     | zero=>exact absurd HA.out (by simp [Y10.l0])
     | succ k2 =>
      have H:=HA.out
      clear HA
      simp only [Y10.l0] at H
      by_cases c9:x4_2<(a0.size:Int)
      ·rw [if_pos c9] at H
       have c9b0:decide (x4_2<(a0.size:Int))=true:=decide_eq_true c9
       clear c9
       have HC10:=Aside0.mk H
       clear H
       go_upto_region 7 with (fail)
       go_cut [38] (fun v38 wc=>∃ (kq:Nat) (x38_9:Bool),v38 = .bool x38_9∧Aside0 (Y10.j2 kq a0 x3_2 x4_2 x38_9=some r)∧Aside0 (kq≤k2)∧Drawn0 w wc)
       case first =>
        have H:=HC10.out
        clear HC10
        by_cases c11:0≤x4_2
        ·rw [if_pos c11] at H
         have c11b0:decide (0≤x4_2)=true:=decide_eq_true c11
         clear c11
         (first | rw [c11b0] | (simp only [i64_w,i32_w];rw [c11b0]) | skip)
         by_cases c13:(bt a0 x4_2)<48
         ·rw [if_pos c13] at H
          have c13b0:decide ((bt a0 x4_2)<48)=true:=decide_eq_true c13
          clear c13
          have H':=Aside0.mk H
          clear H
          have p12:0≤(x4_2:Int):=of_decide_eq_true (by first | (with_reducible assumption) | assumption)
          have q12:x4_2<(a0.size:Int):=of_decide_eq_true (by first | (with_reducible assumption) | assumption)
          have hx12:=bt_at a0 x4_2
          replace p12:=eq_true p12
          replace q12:=eq_true q12
          go_wp2
          go_meet
          case rel=>exact ⟨_,(true),(by first | rfl | (simp;done) | (simp [*];done) | (simp [bne];done)),H',⟨by have:=HJ1.out;have:=HK2.out;first | omega | exact Nat.le_refl _⟩,by repeat (first | exact Drawn0.refl _ | apply Drawn0.step)⟩
         ·rw [if_neg c13] at H
          have c13b0:decide ((bt a0 x4_2)<48)=false:=decide_eq_false c13
          clear c13
          have H':=Aside0.mk H
          clear H
          have p12:0≤(x4_2:Int):=of_decide_eq_true (by first | (with_reducible assumption) | assumption)
          have q12:x4_2<(a0.size:Int):=of_decide_eq_true (by first | (with_reducible assumption) | assumption)
          have hx12:=bt_at a0 x4_2
          replace p12:=eq_true p12
          replace q12:=eq_true q12
          have p14:0≤(x4_2:Int):=of_decide_eq_true (by first | (with_reducible assumption) | assumption)
          have q14:x4_2<(a0.size:Int):=of_decide_eq_true (by first | (with_reducible assumption) | assumption)
          have hx14:=bt_at a0 x4_2
          replace p14:=eq_true p14
          replace q14:=eq_true q14
          go_wp2
          go_meet
          case rel=>exact ⟨_,(decide ((bt a0 x4_2)>57)),(by first | rfl | (simp;done) | (simp [*];done) | (simp [bne];done)),H',⟨by have:=HJ1.out;have:=HK2.out;first | omega | exact Nat.le_refl _⟩,by repeat (first | exact Drawn0.refl _ | apply Drawn0.step)⟩
        ·rw [if_neg c11] at H
         exact absurd H (by simp)
       case rest =>
        clear HC10
        try clear c1
        try clear p1
        try clear q1
        try clear hx1
        try clear p2
        try clear c3
        try clear c3b0
        try clear c3b1
        try clear c4
        try clear c4b0
        try clear c4b1
        try clear c5
        try clear c5b0
        try clear c5b1
        try clear c6
        try clear c6b0
        try clear c6b1
        try clear p7
        try clear q7
        try clear hx7
        try clear qi7
        try clear c8
        try clear c9
        try clear c9b0
        try clear c11
        try clear c11b0
        try clear p12
        try clear q12
        try clear hx12
        try clear c13
        try clear c13b0
        try clear p14
        try clear q14
        try clear hx14
        try clear p12
        try clear p14
        try clear p2
        try clear p7
        try clear q12
        try clear q14
        try clear q7
        obtain ⟨kq,x38_9,rfl,HA,HJ9,⟨mc9,rfl⟩⟩:=hcut
        cases kq with
        | zero=>exact absurd HA.out (by simp [Y10.j2])
        | succ kj9 =>
         have H:=HA.out
         clear HA
         simp only [Y10.j2] at H
         by_cases c15:x38_9=true
         ·subst c15
          have H1:(some (-1))=some r:=by rw [if_pos rfl] at H;exact H
          clear H
          have H:=H1
          clear H1
          obtain rfl:=Option.some.inj H
          go_wp2
          go_ret
          exact ⟨by first | rfl | (simp;done) | (simp [*];done) | (simp [bne];done),by repeat (first | exact Drawn0.refl _ | apply Drawn0.step)⟩
         ·replace c15:=Bool.eq_false_iff.mpr c15
          subst c15
          have H1:(if 0≤x4_2 then (if x4_2<(a0.size:Int) then (Y10.l0 kj9 a0 (wrap64 ((wrap64 (10*x3_2))+(((bt a0 x4_2)-48) % 256))) (wrap64 (x4_2+1))) else (none)) else (none))=some r:=by rw [if_neg (show ¬ (false=true) by decide)] at H;exact H
          clear H
          have H:=H1
          clear H1
          by_cases c16:0≤x4_2
          ·rw [if_pos c16] at H
           have c16b0:decide (0≤x4_2)=true:=decide_eq_true c16
           clear c16
           by_cases c17:x4_2<(a0.size:Int)
           ·rw [if_pos c17] at H
            have c17b0:decide (x4_2<(a0.size:Int))=true:=decide_eq_true c17
            clear c17
            have H':=Aside0.mk H
            clear H
            have p18:0≤(x4_2:Int):=of_decide_eq_true (by first | (with_reducible assumption) | assumption)
            have q18:x4_2<(a0.size:Int):=of_decide_eq_true (by first | (with_reducible assumption) | assumption)
            have hx18:=bt_at a0 x4_2
            replace p18:=eq_true p18
            replace q18:=eq_true q18
            go_wp2
            go_roundg kj9
            case measure=>have:=HJ1.out;have:=HK2.out;have:=HJ9.out;omega
            case rel=>exact ⟨(wrap64 ((wrap64 (10*x3_2))+(((bt a0 x4_2)-48) % 256))),(wrap64 (x4_2+1)),(by first | rfl | (simp;done) | (simp [*];done) | (simp [bne];done)),(by first | rfl | (simp;done) | (simp [*];done) | (simp [bne];done)),H',⟨by have:=HJ1.out;have:=HK2.out;have:=HJ9.out;omega⟩,by repeat (first | exact Drawn0.refl _ | apply Drawn0.step)⟩
           ·rw [if_neg c17] at H
            exact absurd H (by simp)
          ·rw [if_neg c16] at H
           exact absurd H (by simp)
      ·rw [if_neg c9] at H
       have c9b0:decide (x4_2<(a0.size:Int))=false:=decide_eq_false c9
       clear c9
       obtain rfl:=Option.some.inj H
       go_wp2
       go_ret
       exact ⟨by first | rfl | (simp;done) | (simp [*];done) | (simp [bne];done),by repeat (first | exact Drawn0.refl _ | apply Drawn0.step)⟩


/-! ### Y9: function 9 -/
def Y9.j0:Nat→Int→List ByteArray→Bool→Option (ByteArray)
 | 0,_,_,_=>none
 | k+1,x0,x3,x12=>if x12=true then (some (⟨#[]⟩:ByteArray)) else (if 0≤x0 then (if x0<(x3.length:Int) then (some (rdOf ByteArray.empty x3 x0)) else (none)) else (none))
def Y9.f (k:Nat) (a0:Int):Option (ByteArray):=(some (([(⟨#[]⟩:ByteArray),(⟨#[112,117,116]⟩:ByteArray),(⟨#[111,118,101,114]⟩:ByteArray),(⟨#[100,101,108]⟩:ByteArray),(⟨#[103,101,116]⟩:ByteArray),(⟨#[100,101,108,105,118,101,114]⟩:ByteArray),(⟨#[108,111,115,101]⟩:ByteArray),(⟨#[116,119,105,99,101]⟩:ByteArray),(⟨#[116,105,99,107]⟩:ByteArray),(⟨#[99,114,97,115,104]⟩:ByteArray),(⟨#[115,116,97,114,116]⟩:ByteArray),(⟨#[115,117,115,112,101,99,116]⟩:ByteArray),(⟨#[116,114,117,115,116]⟩:ByteArray),(⟨#[104,97,110,100]⟩:ByteArray),(⟨#[112,97,99,107]⟩:ByteArray),(⟨#[115,101,116,116,108,101]⟩:ByteArray),(⟨#[115,112,114,101,97,100]⟩:ByteArray),(⟨#[101,120,99,104,97,110,103,101]⟩:ByteArray)]:List ByteArray):List ByteArray)).bind fun y110=>(if a0<1 then (Y9.j0 k a0 y110 true) else (Y9.j0 k a0 y110 (decide (a0≥(y110.length:Int)))))
theorem Y9.mono_l:∀ k,(∀ y0 y1 y2,LeO (Y9.j0 k y0 y1 y2) (Y9.j0 (k+1) y0 y1 y2))
 | 0=>fun _ _ _ r h=>by simp [Y9.j0] at h
 | k+1=>by
  have ih0:=Y9.mono_l k
  ·intro y0 y1 y2
   unfold Y9.j0
   repeat' first
   | (with_reducible exact ih0 _ _ _)
   | (with_reducible exact LeO.refl _)
   | (with_reducible exact LeO.none _)
   | (with_reducible refine LeO.ite ?_ ?_)
   | (with_reducible refine LeO.bind ?_ (fun _=>?_))
   | exact ih0 _ _ _
   | exact LeO.none _
   | refine LeO.ite ?_ ?_
   | refine LeO.bind ?_ (fun _=>?_)
theorem Y9.mono:∀ a0 k,LeO (Y9.f k a0) (Y9.f (k+1) a0):=by
 intro a0 k
 have ih0:=Y9.mono_l k
 unfold Y9.f
 repeat' first
   | (with_reducible exact ih0 _ _ _)
   | (with_reducible exact LeO.refl _)
   | (with_reducible exact LeO.none _)
   | (with_reducible refine LeO.ite ?_ ?_)
   | (with_reducible refine LeO.bind ?_ (fun _=>?_))
   | exact ih0 _ _ _
   | exact LeO.none _
   | refine LeO.ite ?_ ?_
   | refine LeO.bind ?_ (fun _=>?_)
set_option maxHeartbeats 8000000 in
set_option maxRecDepth 100000 in
theorem Y9.calls (k:Nat) (a0:Int) (r:ByteArray) (w:World) (h:Y9.f k a0=some r) :
  Calls Tryd.prog 9 #[.int .i64 a0] w fun e w'=>e = .returned (.string r)∧Below w.heap.size w w':=by
 have HB:=Aside0.mk (Below.refl w.heap.size w)
 have H:((some (([(⟨#[]⟩:ByteArray),(⟨#[112,117,116]⟩:ByteArray),(⟨#[111,118,101,114]⟩:ByteArray),(⟨#[100,101,108]⟩:ByteArray),(⟨#[103,101,116]⟩:ByteArray),(⟨#[100,101,108,105,118,101,114]⟩:ByteArray),(⟨#[108,111,115,101]⟩:ByteArray),(⟨#[116,119,105,99,101]⟩:ByteArray),(⟨#[116,105,99,107]⟩:ByteArray),(⟨#[99,114,97,115,104]⟩:ByteArray),(⟨#[115,116,97,114,116]⟩:ByteArray),(⟨#[115,117,115,112,101,99,116]⟩:ByteArray),(⟨#[116,114,117,115,116]⟩:ByteArray),(⟨#[104,97,110,100]⟩:ByteArray),(⟨#[112,97,99,107]⟩:ByteArray),(⟨#[115,101,116,116,108,101]⟩:ByteArray),(⟨#[115,112,114,101,97,100]⟩:ByteArray),(⟨#[101,120,99,104,97,110,103,101]⟩:ByteArray)]:List ByteArray):List ByteArray)).bind fun y110=>(if a0<1 then (Y9.j0 k a0 y110 true) else (Y9.j0 k a0 y110 (decide (a0≥(y110.length:Int))))))=some r:=h
 clear h
 obtain ⟨y110,hy110⟩:∃ y_:List ByteArray,y_=(([(⟨#[]⟩:ByteArray),(⟨#[112,117,116]⟩:ByteArray),(⟨#[111,118,101,114]⟩:ByteArray),(⟨#[100,101,108]⟩:ByteArray),(⟨#[103,101,116]⟩:ByteArray),(⟨#[100,101,108,105,118,101,114]⟩:ByteArray),(⟨#[108,111,115,101]⟩:ByteArray),(⟨#[116,119,105,99,101]⟩:ByteArray),(⟨#[116,105,99,107]⟩:ByteArray),(⟨#[99,114,97,115,104]⟩:ByteArray),(⟨#[115,116,97,114,116]⟩:ByteArray),(⟨#[115,117,115,112,101,99,116]⟩:ByteArray),(⟨#[116,114,117,115,116]⟩:ByteArray),(⟨#[104,97,110,100]⟩:ByteArray),(⟨#[112,97,99,107]⟩:ByteArray),(⟨#[115,101,116,116,108,101]⟩:ByteArray),(⟨#[115,112,114,101,97,100]⟩:ByteArray),(⟨#[101,120,99,104,97,110,103,101]⟩:ByteArray)]:List ByteArray)):=⟨_,rfl⟩
 replace H:(if a0<1 then (Y9.j0 k a0 y110 true) else (Y9.j0 k a0 y110 (decide (a0≥(y110.length:Int)))))=some r:=by first | (rw [hy110];with_reducible exact H) | (have H2_:=(Option.bind_some _ _).symm.trans H;rw [hy110];with_reducible exact H2_) | (have H2_:=(Option.bind_some _ _).symm.trans H;with_reducible exact H2_) | with_reducible exact H | (rw [hy110];exact H) | exact H
 have Ny110:=Aside0.mk hy110
 clear hy110
 have HC2:=Aside0.mk H
 clear H
 go_enter Tryd.func9,Tryd.ntmps9
 go_upto_region 2 with (first | ((with_reducible refine gate_dst (N:=4) rfl ?_);(try (refine gate_guard (by rfl) ?_;dsimp only));refine Kd.R_lit Kd.string _ 9 ?hg (N:=4) ?hd (xs:=([(⟨#[]⟩:ByteArray),(⟨#[112,117,116]⟩:ByteArray),(⟨#[111,118,101,114]⟩:ByteArray),(⟨#[100,101,108]⟩:ByteArray),(⟨#[103,101,116]⟩:ByteArray),(⟨#[100,101,108,105,118,101,114]⟩:ByteArray),(⟨#[108,111,115,101]⟩:ByteArray),(⟨#[116,119,105,99,101]⟩:ByteArray),(⟨#[116,105,99,107]⟩:ByteArray),(⟨#[99,114,97,115,104]⟩:ByteArray),(⟨#[115,116,97,114,116]⟩:ByteArray),(⟨#[115,117,115,112,101,99,116]⟩:ByteArray),(⟨#[116,114,117,115,116]⟩:ByteArray),(⟨#[104,97,110,100]⟩:ByteArray),(⟨#[112,97,99,107]⟩:ByteArray),(⟨#[115,101,116,116,108,101]⟩:ByteArray),(⟨#[115,112,114,101,97,100]⟩:ByteArray),(⟨#[101,120,99,104,97,110,103,101]⟩:ByteArray)]:List ByteArray)) (inner:=[.string (⟨#[]⟩:ByteArray),.string (⟨#[112,117,116]⟩:ByteArray),.string (⟨#[111,118,101,114]⟩:ByteArray),.string (⟨#[100,101,108]⟩:ByteArray),.string (⟨#[103,101,116]⟩:ByteArray),.string (⟨#[100,101,108,105,118,101,114]⟩:ByteArray),.string (⟨#[108,111,115,101]⟩:ByteArray),.string (⟨#[116,119,105,99,101]⟩:ByteArray),.string (⟨#[116,105,99,107]⟩:ByteArray),.string (⟨#[99,114,97,115,104]⟩:ByteArray),.string (⟨#[115,116,97,114,116]⟩:ByteArray),.string (⟨#[115,117,115,112,101,99,116]⟩:ByteArray),.string (⟨#[116,114,117,115,116]⟩:ByteArray),.string (⟨#[104,97,110,100]⟩:ByteArray),.string (⟨#[112,97,99,107]⟩:ByteArray),.string (⟨#[115,101,116,116,108,101]⟩:ByteArray),.string (⟨#[115,112,114,101,97,100]⟩:ByteArray),.string (⟨#[101,120,99,104,97,110,103,101]⟩:ByteArray)]) (ok:=fun _=>True) (okp:=fun _=>True) ?hr ?hp (fun _ hk=>hk) trivial (Below.refl _ _) (Nat.le_refl _) (by simp) ?_;(case hd=>rfl);(case hg=>rfl);(case hr=>first | (go_simp;done) | (go_simp;rfl));(case hp=>exact (Reps.one (show Kd.M Kd.string _ _ _ (⟨#[]⟩:ByteArray) [.string (⟨#[]⟩:ByteArray)] from rfl) (Reps.one (show Kd.M Kd.string _ _ _ (⟨#[112,117,116]⟩:ByteArray) [.string (⟨#[112,117,116]⟩:ByteArray)] from rfl) (Reps.one (show Kd.M Kd.string _ _ _ (⟨#[111,118,101,114]⟩:ByteArray) [.string (⟨#[111,118,101,114]⟩:ByteArray)] from rfl) (Reps.one (show Kd.M Kd.string _ _ _ (⟨#[100,101,108]⟩:ByteArray) [.string (⟨#[100,101,108]⟩:ByteArray)] from rfl) (Reps.one (show Kd.M Kd.string _ _ _ (⟨#[103,101,116]⟩:ByteArray) [.string (⟨#[103,101,116]⟩:ByteArray)] from rfl) (Reps.one (show Kd.M Kd.string _ _ _ (⟨#[100,101,108,105,118,101,114]⟩:ByteArray) [.string (⟨#[100,101,108,105,118,101,114]⟩:ByteArray)] from rfl) (Reps.one (show Kd.M Kd.string _ _ _ (⟨#[108,111,115,101]⟩:ByteArray) [.string (⟨#[108,111,115,101]⟩:ByteArray)] from rfl) (Reps.one (show Kd.M Kd.string _ _ _ (⟨#[116,119,105,99,101]⟩:ByteArray) [.string (⟨#[116,119,105,99,101]⟩:ByteArray)] from rfl) (Reps.one (show Kd.M Kd.string _ _ _ (⟨#[116,105,99,107]⟩:ByteArray) [.string (⟨#[116,105,99,107]⟩:ByteArray)] from rfl) (Reps.one (show Kd.M Kd.string _ _ _ (⟨#[99,114,97,115,104]⟩:ByteArray) [.string (⟨#[99,114,97,115,104]⟩:ByteArray)] from rfl) (Reps.one (show Kd.M Kd.string _ _ _ (⟨#[115,116,97,114,116]⟩:ByteArray) [.string (⟨#[115,116,97,114,116]⟩:ByteArray)] from rfl) (Reps.one (show Kd.M Kd.string _ _ _ (⟨#[115,117,115,112,101,99,116]⟩:ByteArray) [.string (⟨#[115,117,115,112,101,99,116]⟩:ByteArray)] from rfl) (Reps.one (show Kd.M Kd.string _ _ _ (⟨#[116,114,117,115,116]⟩:ByteArray) [.string (⟨#[116,114,117,115,116]⟩:ByteArray)] from rfl) (Reps.one (show Kd.M Kd.string _ _ _ (⟨#[104,97,110,100]⟩:ByteArray) [.string (⟨#[104,97,110,100]⟩:ByteArray)] from rfl) (Reps.one (show Kd.M Kd.string _ _ _ (⟨#[112,97,99,107]⟩:ByteArray) [.string (⟨#[112,97,99,107]⟩:ByteArray)] from rfl) (Reps.one (show Kd.M Kd.string _ _ _ (⟨#[115,101,116,116,108,101]⟩:ByteArray) [.string (⟨#[115,101,116,116,108,101]⟩:ByteArray)] from rfl) (Reps.one (show Kd.M Kd.string _ _ _ (⟨#[115,112,114,101,97,100]⟩:ByteArray) [.string (⟨#[115,112,114,101,97,100]⟩:ByteArray)] from rfl) (Reps.one (show Kd.M Kd.string _ _ _ (⟨#[101,120,99,104,97,110,103,101]⟩:ByteArray) [.string (⟨#[101,120,99,104,97,110,103,101]⟩:ByteArray)] from rfl) (Reps.none _ _))))))))))))))))))));intro v111 w3 ho4 hb hg_ hnew_;clear hg_ hnew_;(first | rw [← Ny110.out] at ho4 | (simp only [Int.reduceToNat] at ho4;rw [← Ny110.out] at ho4));have n0_:=Aside0.mk (Kd.R_lower ho4 (below_size (by repeat (first | (with_reducible first | exact HB.out | apply below_alloc | apply pw_below_drewN | apply below_drew1) | exact HB.out))));have n1_:=Aside0.mk (below_step (by repeat (first | (with_reducible first | exact HB.out | apply below_alloc | apply pw_below_drewN | apply below_drew1) | exact HB.out)) hb);clear HB;have HO112:=n0_;have HB:=n1_;clear n0_ n1_;clear hb ho4))
 (try simp only [Act.put,sa_,s0_,ss_])
 go_cut [12] (fun v12 wc=>∃ (kq:Nat) (x12_1:Bool),v12 = .bool x12_1∧Aside0 (Y9.j0 kq a0 y110 x12_1=some r)∧Aside0 (kq≤k)∧Aside0 (Kd.R Kd.string 9 wc w.heap.size (fun _=>True) v111 y110)∧Aside0 (Below w.heap.size w wc))
 case first =>
  have H:=HC2.out
  clear HC2
  by_cases c5:a0<1
  ·rw [if_pos c5] at H
   have c5b0:decide (a0<1)=true:=decide_eq_true c5
   clear c5
   (first | rw [c5b0] | (simp only [i64_w,i32_w];rw [c5b0]) | skip)
   have H':=Aside0.mk H
   clear H
   go_wp2
   go_meet
   case rel=>exact ⟨_,(true),(by first | rfl | (simp;done) | (simp [*];done) | (simp [bne];done)),H',⟨by first | omega | exact Nat.le_refl _⟩,⟨by (with_reducible repeat (first | apply Kd.R_alloc | apply Kd.R_drewN | apply Kd.R_drew));exact HO112.out⟩,⟨by repeat (first | (with_reducible first | exact HB.out | apply below_alloc | apply pw_below_drewN | apply below_drew1) | exact HB.out)⟩⟩
  ·rw [if_neg c5] at H
   have c5b0:decide (a0<1)=false:=decide_eq_false c5
   clear c5
   (first | rw [c5b0] | (simp only [i64_w,i32_w];rw [c5b0]) | skip)
   have H':=Aside0.mk H
   clear H
   obtain ⟨Ao6,co6,eo6⟩:=Kd.R_slice HO112.out
   subst eo6
   go_wp2
   go_meet
   case rel=>exact ⟨_,(decide (a0≥(y110.length:Int))),(by first | rfl | (simp;done) | (simp [*];done) | (simp [bne];done)),H',⟨by first | omega | exact Nat.le_refl _⟩,⟨by (with_reducible repeat (first | apply Kd.R_alloc | apply Kd.R_drewN | apply Kd.R_drew));exact HO112.out⟩,⟨by repeat (first | (with_reducible first | exact HB.out | apply below_alloc | apply pw_below_drewN | apply below_drew1) | exact HB.out)⟩⟩
 case rest =>
  clear HC2
  try clear p2
  try clear c5
  try clear c5b0
  obtain ⟨kq,x12_1,rfl,HA,HJ1,HO_3,HB⟩:=hcut
  cases kq with
  | zero=>exact absurd HA.out (by simp [Y9.j0])
  | succ kj1 =>
   have H:=HA.out
   clear HA
   simp only [Y9.j0] at H
   by_cases c7:x12_1=true
   ·subst c7
    have H1:(some (⟨#[]⟩:ByteArray))=some r:=by rw [if_pos rfl] at H;exact H
    clear H
    have H:=H1
    clear H1
    obtain rfl:=Option.some.inj H
    go_wp2
    go_ret
    exact ⟨by first | rfl | (simp [errW_none,errW_some] <;> rfl) | (simp [*,errW_none,errW_some] <;> rfl),by repeat (first | (with_reducible first | exact HB.out | apply below_alloc | apply pw_below_drewN | apply below_drew1) | exact HB.out)⟩
   ·replace c7:=Bool.eq_false_iff.mpr c7
    subst c7
    have H1:(if 0≤a0 then (if a0<(y110.length:Int) then (some (rdOf ByteArray.empty y110 a0)) else (none)) else (none))=some r:=by rw [if_neg (show ¬ (false=true) by decide)] at H;exact H
    clear H
    have H:=H1
    clear H1
    by_cases c8:0≤a0
    ·rw [if_pos c8] at H
     have c8b0:decide (0≤a0)=true:=decide_eq_true c8
     clear c8
     by_cases c9:a0<(y110.length:Int)
     ·rw [if_pos c9] at H
      have c9b0:decide (a0<(y110.length:Int))=true:=decide_eq_true c9
      clear c9
      obtain rfl:=Option.some.inj H
      obtain ⟨Ao10,co10,eo10⟩:=Kd.R_slice HO_3.out
      subst eo10
      have p113:0≤(a0:Int):=of_decide_eq_true (by first | (with_reducible assumption) | assumption)
      have q113:a0<(y110.length:Int):=of_decide_eq_true (by first | (with_reducible assumption) | assumption)
      obtain ⟨ad113,e113,hx113_0⟩:=Kd.at_string (Kd.R_reads' HO_3.out).2.2 a0 p113 q113
      cases e113
      replace p113:=eq_true p113
      replace q113:=eq_true q113
      go_wp2
      go_ret
      exact ⟨by first | rfl | (simp [errW_none,errW_some] <;> rfl) | (simp [*,errW_none,errW_some] <;> rfl),by repeat (first | (with_reducible first | exact HB.out | apply below_alloc | apply pw_below_drewN | apply below_drew1) | exact HB.out)⟩
     ·rw [if_neg c9] at H
      exact absurd H (by simp)
    ·rw [if_neg c8] at H
     exact absurd H (by simp)


/-! ### Y12: function 10 -/
def Y12.j0:Nat→Int→Bool→Option (Bool × Bool × Bool × Bool)
 | 0,_,_=>none
 | k+1,x6,x15=>if x15=true then (some (false,false,false,false)) else (if x6=16 then (some (false,false,true,false)) else (if x6=17 then (some (true,true,false,false)) else (some (true,false,false,false))))
def Y12.f (k:Nat) (a0:Int):Option (Bool × Bool × Bool × Bool):=if a0=1 then (some (true,false,true,true)) else (if a0=2 then (some (true,true,true,true)) else (if a0=3 then (some (true,true,true,false)) else (if a0=4 then (some (true,false,true,false)) else (if a0=8 then (Y12.j0 k a0 (a0 == 8)) else (Y12.j0 k a0 (a0 == 15))))))
theorem Y12.mono_l:∀ k,(∀ y0 y1,LeO (Y12.j0 k y0 y1) (Y12.j0 (k+1) y0 y1))
 | 0=>fun _ _ r h=>by simp [Y12.j0] at h
 | k+1=>by
  have ih0:=Y12.mono_l k
  ·intro y0 y1
   unfold Y12.j0
   repeat' first
   | (with_reducible exact ih0 _ _)
   | (with_reducible exact LeO.refl _)
   | (with_reducible exact LeO.none _)
   | (with_reducible refine LeO.ite ?_ ?_)
   | (with_reducible refine LeO.bind ?_ (fun _=>?_))
   | exact ih0 _ _
   | exact LeO.none _
   | refine LeO.ite ?_ ?_
   | refine LeO.bind ?_ (fun _=>?_)
theorem Y12.mono:∀ a0 k,LeO (Y12.f k a0) (Y12.f (k+1) a0):=by
 intro a0 k
 have ih0:=Y12.mono_l k
 unfold Y12.f
 repeat' first
   | (with_reducible exact ih0 _ _)
   | (with_reducible exact LeO.refl _)
   | (with_reducible exact LeO.none _)
   | (with_reducible refine LeO.ite ?_ ?_)
   | (with_reducible refine LeO.bind ?_ (fun _=>?_))
   | exact ih0 _ _
   | exact LeO.none _
   | refine LeO.ite ?_ ?_
   | refine LeO.bind ?_ (fun _=>?_)
set_option maxHeartbeats 8000000 in
set_option maxRecDepth 100000 in
theorem Y12.calls (k:Nat) (a0:Int) (r1:Bool) (r2:Bool) (r3:Bool) (r4:Bool) (w:World) (h:Y12.f k a0=some (r1,r2,r3,r4)) :
  Calls Tryd.prog 10 #[.int .i64 a0] w fun e w'=>e = .returned (.tuple #[.bool r1,.bool r2,.bool r3,.bool r4])∧Drawn0 w w':=by
 have H:(if a0=1 then (some (true,false,true,true)) else (if a0=2 then (some (true,true,true,true)) else (if a0=3 then (some (true,true,true,false)) else (if a0=4 then (some (true,false,true,false)) else (if a0=8 then (Y12.j0 k a0 (a0 == 8)) else (Y12.j0 k a0 (a0 == 15)))))))=some (r1,r2,r3,r4):=h
 clear h
 by_cases c2:a0=1
 ·rw [if_pos c2] at H
  have c2b0:(a0 == 1)=true:=beq_iff_eq.mpr c2
  have c2b1:(a0 != 1)=false:=bne_eq_false_iff_eq.mpr c2
  clear c2
  simp only [Option.some.injEq,Prod.mk.injEq] at H
  obtain ⟨rfl,rfl,rfl,rfl⟩:=H
  go_enter Tryd.func10,Tryd.ntmps10
  go_wp2
  refine bodyPost_ret (results_list (rs:=[.tmp 2,.tmp 3,.tmp 4,.tmp 5]) rfl (by simp) (.tmp (.tmp (.tmp (.tmp .nil))))) rfl ?_
  exact ⟨by first | rfl | (simp;done) | (simp [*];done) | (simp [bne];done),by repeat (first | exact Drawn0.refl _ | apply Drawn0.step)⟩
 ·rw [if_neg c2] at H
  have c2b0:(a0 == 1)=false:=beq_eq_false_iff_ne.mpr c2
  have c2b1:(a0 != 1)=true:=bne_iff_ne.mpr c2
  by_cases c3:a0=2
  ·rw [if_pos c3] at H
   have c3b0:(a0 == 2)=true:=beq_iff_eq.mpr c3
   have c3b1:(a0 != 2)=false:=bne_eq_false_iff_eq.mpr c3
   clear c3
   simp only [Option.some.injEq,Prod.mk.injEq] at H
   obtain ⟨rfl,rfl,rfl,rfl⟩:=H
   go_enter Tryd.func10,Tryd.ntmps10
   go_wp2
   refine bodyPost_ret (results_list (rs:=[.tmp 2,.tmp 3,.tmp 4,.tmp 5]) rfl (by simp) (.tmp (.tmp (.tmp (.tmp .nil))))) rfl ?_
   exact ⟨by first | rfl | (simp;done) | (simp [*];done) | (simp [bne];done),by repeat (first | exact Drawn0.refl _ | apply Drawn0.step)⟩
  ·rw [if_neg c3] at H
   have c3b0:(a0 == 2)=false:=beq_eq_false_iff_ne.mpr c3
   have c3b1:(a0 != 2)=true:=bne_iff_ne.mpr c3
   by_cases c4:a0=3
   ·rw [if_pos c4] at H
    have c4b0:(a0 == 3)=true:=beq_iff_eq.mpr c4
    have c4b1:(a0 != 3)=false:=bne_eq_false_iff_eq.mpr c4
    clear c4
    simp only [Option.some.injEq,Prod.mk.injEq] at H
    obtain ⟨rfl,rfl,rfl,rfl⟩:=H
    go_enter Tryd.func10,Tryd.ntmps10
    go_wp2
    refine bodyPost_ret (results_list (rs:=[.tmp 2,.tmp 3,.tmp 4,.tmp 5]) rfl (by simp) (.tmp (.tmp (.tmp (.tmp .nil))))) rfl ?_
    exact ⟨by first | rfl | (simp;done) | (simp [*];done) | (simp [bne];done),by repeat (first | exact Drawn0.refl _ | apply Drawn0.step)⟩
   ·rw [if_neg c4] at H
    have c4b0:(a0 == 3)=false:=beq_eq_false_iff_ne.mpr c4
    have c4b1:(a0 != 3)=true:=bne_iff_ne.mpr c4
    by_cases c5:a0=4
    ·rw [if_pos c5] at H
     have c5b0:(a0 == 4)=true:=beq_iff_eq.mpr c5
     have c5b1:(a0 != 4)=false:=bne_eq_false_iff_eq.mpr c5
     clear c5
     simp only [Option.some.injEq,Prod.mk.injEq] at H
     obtain ⟨rfl,rfl,rfl,rfl⟩:=H
     go_enter Tryd.func10,Tryd.ntmps10
     go_wp2
     refine bodyPost_ret (results_list (rs:=[.tmp 2,.tmp 3,.tmp 4,.tmp 5]) rfl (by simp) (.tmp (.tmp (.tmp (.tmp .nil))))) rfl ?_
     exact ⟨by first | rfl | (simp;done) | (simp [*];done) | (simp [bne];done),by repeat (first | exact Drawn0.refl _ | apply Drawn0.step)⟩
    ·rw [if_neg c5] at H
     have c5b0:(a0 == 4)=false:=beq_eq_false_iff_ne.mpr c5
     have c5b1:(a0 != 4)=true:=bne_iff_ne.mpr c5
     have HC6:=Aside0.mk H
     clear H
     go_enter Tryd.func10,Tryd.ntmps10
     go_upto_if 15 with (fail)
     go_cut [15] (fun v15 wc=>∃ (kq:Nat) (x15_5:Bool),v15 = .bool x15_5∧Aside0 (Y12.j0 kq a0 x15_5=some (r1,r2,r3,r4))∧Aside0 (kq≤k)∧Drawn0 w wc)
     case first =>
      have H:=HC6.out
      clear HC6
      by_cases c7:a0=8
      ·rw [if_pos c7] at H
       have c7b0:(a0 == 8)=true:=beq_iff_eq.mpr c7
       have c7b1:(a0 != 8)=false:=bne_eq_false_iff_eq.mpr c7
       clear c7
       (first | rw [c7b0] | (simp only [i64_w,i32_w];rw [c7b0]) | skip)
       have H':=Aside0.mk H
       clear H
       go_wp2
       go_meet
       case rel=>exact ⟨_,((a0 == 8)),(by first | rfl | (simp;done) | (simp [*];done) | (simp [bne];done)),H',⟨by first | omega | exact Nat.le_refl _⟩,by repeat (first | exact Drawn0.refl _ | apply Drawn0.step)⟩
      ·rw [if_neg c7] at H
       have c7b0:(a0 == 8)=false:=beq_eq_false_iff_ne.mpr c7
       have c7b1:(a0 != 8)=true:=bne_iff_ne.mpr c7
       (first | rw [c7b0] | (simp only [i64_w,i32_w];rw [c7b0]) | skip)
       have H':=Aside0.mk H
       clear H
       go_wp2
       go_meet
       case rel=>exact ⟨_,((a0 == 15)),(by first | rfl | (simp;done) | (simp [*];done) | (simp [bne];done)),H',⟨by first | omega | exact Nat.le_refl _⟩,by repeat (first | exact Drawn0.refl _ | apply Drawn0.step)⟩
     case rest =>
      clear HC6
      try clear c1
      try clear c2
      try clear c2b0
      try clear c2b1
      try clear p2
      try clear c3
      try clear c3b0
      try clear c3b1
      try clear c4
      try clear c4b0
      try clear c4b1
      try clear c5
      try clear c5b0
      try clear c5b1
      try clear c7
      try clear c7b0
      try clear c7b1
      obtain ⟨kq,x15_5,rfl,HA,HJ5,⟨mc5,rfl⟩⟩:=hcut
      cases kq with
      | zero=>exact absurd HA.out (by simp [Y12.j0])
      | succ kj5 =>
       have H:=HA.out
       clear HA
       simp only [Y12.j0] at H
       by_cases c8:x15_5=true
       ·subst c8
        have H1:(some (false,false,false,false))=some (r1,r2,r3,r4):=by rw [if_pos rfl] at H;exact H
        clear H
        have H:=H1
        clear H1
        simp only [Option.some.injEq,Prod.mk.injEq] at H
        obtain ⟨rfl,rfl,rfl,rfl⟩:=H
        go_wp2
        refine bodyPost_ret (results_list (rs:=[.tmp 2,.tmp 3,.tmp 4,.tmp 5]) rfl (by simp) (.tmp (.tmp (.tmp (.tmp .nil))))) rfl ?_
        exact ⟨by first | rfl | (simp;done) | (simp [*];done) | (simp [bne];done),by repeat (first | exact Drawn0.refl _ | apply Drawn0.step)⟩
       ·replace c8:=Bool.eq_false_iff.mpr c8
        subst c8
        have H1:(if a0=16 then (some (false,false,true,false)) else (if a0=17 then (some (true,true,false,false)) else (some (true,false,false,false))))=some (r1,r2,r3,r4):=by rw [if_neg (show ¬ (false=true) by decide)] at H;exact H
        clear H
        have H:=H1
        clear H1
        by_cases c9:a0=16
        ·rw [if_pos c9] at H
         have c9b0:(a0 == 16)=true:=beq_iff_eq.mpr c9
         have c9b1:(a0 != 16)=false:=bne_eq_false_iff_eq.mpr c9
         clear c9
         simp only [Option.some.injEq,Prod.mk.injEq] at H
         obtain ⟨rfl,rfl,rfl,rfl⟩:=H
         go_wp2
         refine bodyPost_ret (results_list (rs:=[.tmp 2,.tmp 3,.tmp 4,.tmp 5]) rfl (by simp) (.tmp (.tmp (.tmp (.tmp .nil))))) rfl ?_
         exact ⟨by first | rfl | (simp;done) | (simp [*];done) | (simp [bne];done),by repeat (first | exact Drawn0.refl _ | apply Drawn0.step)⟩
        ·rw [if_neg c9] at H
         have c9b0:(a0 == 16)=false:=beq_eq_false_iff_ne.mpr c9
         have c9b1:(a0 != 16)=true:=bne_iff_ne.mpr c9
         by_cases c10:a0=17
         ·rw [if_pos c10] at H
          have c10b0:(a0 == 17)=true:=beq_iff_eq.mpr c10
          have c10b1:(a0 != 17)=false:=bne_eq_false_iff_eq.mpr c10
          clear c10
          simp only [Option.some.injEq,Prod.mk.injEq] at H
          obtain ⟨rfl,rfl,rfl,rfl⟩:=H
          go_wp2
          refine bodyPost_ret (results_list (rs:=[.tmp 2,.tmp 3,.tmp 4,.tmp 5]) rfl (by simp) (.tmp (.tmp (.tmp (.tmp .nil))))) rfl ?_
          exact ⟨by first | rfl | (simp;done) | (simp [*];done) | (simp [bne];done),by repeat (first | exact Drawn0.refl _ | apply Drawn0.step)⟩
         ·rw [if_neg c10] at H
          have c10b0:(a0 == 17)=false:=beq_eq_false_iff_ne.mpr c10
          have c10b1:(a0 != 17)=true:=bne_iff_ne.mpr c10
          simp only [Option.some.injEq,Prod.mk.injEq] at H
          obtain ⟨rfl,rfl,rfl,rfl⟩:=H
          go_wp2
          refine bodyPost_ret (results_list (rs:=[.tmp 2,.tmp 3,.tmp 4,.tmp 5]) rfl (by simp) (.tmp (.tmp (.tmp (.tmp .nil))))) rfl ?_
          exact ⟨by first | rfl | (simp;done) | (simp [*];done) | (simp [bne];done),by repeat (first | exact Drawn0.refl _ | apply Drawn0.step)⟩


/-! ### Y25: function 27 -/
def Y25.f (a0:Int) (a1:Int) (a2:Int):Option (Bool):=if a0≥a1 then (some (decide (a0≤a2))) else (some false)
set_option maxHeartbeats 8000000 in
set_option maxRecDepth 100000 in
theorem Y25.calls (a0:Int) (a1:Int) (a2:Int) (r:Bool) (w:World) (h:Y25.f a0 a1 a2=some r) :
  Calls Tryd.prog 27 #[.int .i64 a0,.int .i64 a1,.int .i64 a2] w fun e w'=>e = .returned (.bool r)∧Drawn0 w w':=by
 have H:(if a0≥a1 then (some (decide (a0≤a2))) else (some false))=some r:=h
 clear h
 by_cases c4:a0≥a1
 ·rw [if_pos c4] at H
  have c4b0:decide (a1≤a0)=true:=decide_eq_true c4
  clear c4
  obtain rfl:=Option.some.inj H
  go_enter Tryd.func27,Tryd.ntmps27
  go_wp2
  go_ret
  exact ⟨by first | rfl | (simp;done) | (simp [*];done) | (simp [bne];done),by repeat (first | exact Drawn0.refl _ | apply Drawn0.step)⟩
 ·rw [if_neg c4] at H
  have c4b0:decide (a1≤a0)=false:=decide_eq_false c4
  clear c4
  obtain rfl:=Option.some.inj H
  go_enter Tryd.func27,Tryd.ntmps27
  go_wp2
  go_ret
  exact ⟨by first | rfl | (simp;done) | (simp [*];done) | (simp [bne];done),by repeat (first | exact Drawn0.refl _ | apply Drawn0.step)⟩


/-! ### Y11: function 28 -/
mutual
def Y11.j0:Nat→ByteArray→Bool→Option (Bool)
 | 0,_,_=>none
 | k+1,x0,x12=>if x12=true then (some false) else (Y11.l0 k x0 0)
def Y11.l0:Nat→ByteArray→Int→Option (Bool)
 | 0,_,_=>none
 | k+1,x0,x3=>if x3<(x0.size:Int) then (if 0≤x3 then (if (bt x0 x3)≥97 then (if ((bt x0 x3)≤122) then (Y11.l0 k x0 (wrap64 (x3+1))) else (if x3=0 then (some false) else (if (bt x0 x3)≥48 then (if ((bt x0 x3)≤57) then (Y11.l0 k x0 (wrap64 (x3+1))) else (if (bt x0 x3)=95 then (Y11.l0 k x0 (wrap64 (x3+1))) else (some false))) else (if (bt x0 x3)=95 then (Y11.l0 k x0 (wrap64 (x3+1))) else (some false))))) else (if x3=0 then (some false) else (if (bt x0 x3)≥48 then (if ((bt x0 x3)≤57) then (Y11.l0 k x0 (wrap64 (x3+1))) else (if (bt x0 x3)=95 then (Y11.l0 k x0 (wrap64 (x3+1))) else (some false))) else (if (bt x0 x3)=95 then (Y11.l0 k x0 (wrap64 (x3+1))) else (some false))))) else (none)) else (some true)
end
def Y11.f (k:Nat) (a0:ByteArray):Option (Bool):=if (a0.size:Int)<1 then (Y11.j0 k a0 true) else (Y11.j0 k a0 (decide ((a0.size:Int)>20)))
theorem Y11.mono_l:∀ k,(∀ y0 y1,LeO (Y11.j0 k y0 y1) (Y11.j0 (k+1) y0 y1))∧(∀ y0 y1,LeO (Y11.l0 k y0 y1) (Y11.l0 (k+1) y0 y1))
 | 0=>⟨fun _ _ r h=>by simp [Y11.j0] at h,fun _ _ r h=>by simp [Y11.l0] at h⟩
 | k+1=>by
  obtain ⟨ih0,ih1⟩:=Y11.mono_l k
  refine ⟨?_,?_⟩
  ·intro y0 y1
   unfold Y11.j0
   repeat' first
   | (with_reducible exact ih0 _ _)
   | (with_reducible exact ih1 _ _)
   | (with_reducible exact LeO.refl _)
   | (with_reducible exact LeO.none _)
   | (with_reducible refine LeO.ite ?_ ?_)
   | (with_reducible refine LeO.bind ?_ (fun _=>?_))
   | exact ih0 _ _
   | exact ih1 _ _
   | exact LeO.none _
   | refine LeO.ite ?_ ?_
   | refine LeO.bind ?_ (fun _=>?_)
  ·intro y0 y1
   unfold Y11.l0
   repeat' first
   | (with_reducible exact ih0 _ _)
   | (with_reducible exact ih1 _ _)
   | (with_reducible exact LeO.refl _)
   | (with_reducible exact LeO.none _)
   | (with_reducible refine LeO.ite ?_ ?_)
   | (with_reducible refine LeO.bind ?_ (fun _=>?_))
   | exact ih0 _ _
   | exact ih1 _ _
   | exact LeO.none _
   | refine LeO.ite ?_ ?_
   | refine LeO.bind ?_ (fun _=>?_)
theorem Y11.mono:∀ a0 k,LeO (Y11.f k a0) (Y11.f (k+1) a0):=by
 intro a0 k
 obtain ⟨ih0,ih1⟩:=Y11.mono_l k
 unfold Y11.f
 repeat' first
   | (with_reducible exact ih0 _ _)
   | (with_reducible exact ih1 _ _)
   | (with_reducible exact LeO.refl _)
   | (with_reducible exact LeO.none _)
   | (with_reducible refine LeO.ite ?_ ?_)
   | (with_reducible refine LeO.bind ?_ (fun _=>?_))
   | exact ih0 _ _
   | exact ih1 _ _
   | exact LeO.none _
   | refine LeO.ite ?_ ?_
   | refine LeO.bind ?_ (fun _=>?_)
set_option maxHeartbeats 8000000 in
set_option maxRecDepth 100000 in
theorem Y11.calls (k:Nat) (a0:ByteArray) (r:Bool) (w:World) (h:Y11.f k a0=some r) :
  Calls Tryd.prog 28 #[.string a0] w fun e w'=>e = .returned (.bool r)∧Drawn0 w w':=by
 have H:(if (a0.size:Int)<1 then (Y11.j0 k a0 true) else (Y11.j0 k a0 (decide ((a0.size:Int)>20))))=some r:=h
 clear h
 have HC2:=Aside0.mk H
 clear H
 go_enter Tryd.func28,Tryd.ntmps28
 go_upto_region 1 with (fail)
 go_cut [12] (fun v12 wc=>∃ (kq:Nat) (x12_1:Bool),v12 = .bool x12_1∧Aside0 (Y11.j0 kq a0 x12_1=some r)∧Aside0 (kq≤k)∧Drawn0 w wc)
 case first =>
  have H:=HC2.out
  clear HC2
  by_cases c3:(a0.size:Int)<1
  ·rw [if_pos c3] at H
   have c3b0:decide ((a0.size:Int)<1)=true:=decide_eq_true c3
   have c3b1:decide (a0.size<1)=true:=decide_eq_true (by omega)
   clear c3
   (first | rw [c3b0] | (simp only [i64_w,i32_w];rw [c3b0]) | skip)
   have H':=Aside0.mk H
   clear H
   go_wp2
   go_meet
   case rel=>exact ⟨_,(true),(by first | rfl | (simp;done) | (simp [*];done) | (simp [bne];done)),H',⟨by first | omega | exact Nat.le_refl _⟩,by repeat (first | exact Drawn0.refl _ | apply Drawn0.step)⟩
  ·rw [if_neg c3] at H
   have c3b0:decide ((a0.size:Int)<1)=false:=decide_eq_false c3
   have c3b1:decide (a0.size<1)=false:=decide_eq_false (by omega)
   clear c3
   (first | rw [c3b0] | (simp only [i64_w,i32_w];rw [c3b0]) | skip)
   have H':=Aside0.mk H
   clear H
   go_wp2
   go_meet
   case rel=>exact ⟨_,(decide ((a0.size:Int)>20)),(by first | rfl | (simp;done) | (simp [*];done) | (simp [bne];done)),H',⟨by first | omega | exact Nat.le_refl _⟩,by repeat (first | exact Drawn0.refl _ | apply Drawn0.step)⟩
 case rest =>
  clear HC2
  try clear c2
  try clear p2
  try clear c3
  try clear c3b0
  try clear c3b1
  obtain ⟨kq,x12_1,rfl,HA,HJ1,⟨mc1,rfl⟩⟩:=hcut
  cases kq with
  | zero=>exact absurd HA.out (by simp [Y11.j0])
  | succ kj1 =>
   have H:=HA.out
   clear HA
   simp only [Y11.j0] at H
   by_cases c4:x12_1=true
   ·subst c4
    have H1:(some false)=some r:=by rw [if_pos rfl] at H;exact H
    clear H
    have H:=H1
    clear H1
    obtain rfl:=Option.some.inj H
    go_wp2
    go_ret
    exact ⟨by first | rfl | (simp;done) | (simp [*];done) | (simp [bne];done),by repeat (first | exact Drawn0.refl _ | apply Drawn0.step)⟩
   ·replace c4:=Bool.eq_false_iff.mpr c4
    subst c4
    have H1:(Y11.l0 kj1 a0 0)=some r:=by rw [if_neg (show ¬ (false=true) by decide)] at H;exact H
    clear H
    have H:=H1
    clear H1
    have H':=Aside0.mk H
    clear H
    go_wp2
    go_loopg [3] kj1 (fun kq v3 w'=>∃ (x3_2:Int),v3 = .int .i64 x3_2∧Aside0 (Y11.l0 kq a0 x3_2=some r)∧Aside0 (kq≤kj1)∧Drawn0 w w')
    case atStart=>exact ⟨(0),(by first | rfl | (simp;done) | (simp [*];done) | (simp [bne];done)),H',⟨Nat.le_refl _⟩,by repeat (first | exact Drawn0.refl _ | apply Drawn0.step)⟩
    case round =>
     clear H'
     try clear c1
     try clear c2
     try clear p2
     try clear c3
     try clear c3b0
     try clear c3b1
     try clear c4
     try clear p2
     obtain ⟨x3_2,rfl,HA,HK2,⟨m2,rfl⟩⟩:=hrel
     cases gk with
     | zero=>exact absurd HA.out (by simp [Y11.l0])
     | succ k2 =>
      have H:=HA.out
      clear HA
      simp only [Y11.l0] at H
      by_cases c5:x3_2<(a0.size:Int)
      ·rw [if_pos c5] at H
       have c5b0:decide (x3_2<(a0.size:Int))=true:=decide_eq_true c5
       clear c5
       by_cases c6:0≤x3_2
       ·rw [if_pos c6] at H
        have c6b0:decide (0≤x3_2)=true:=decide_eq_true c6
        clear c6
        by_cases c8:(bt a0 x3_2)≥97
        ·rw [if_pos c8] at H
         have c8b0:decide (97≤(bt a0 x3_2))=true:=decide_eq_true c8
         clear c8
         by_cases c9:((bt a0 x3_2)≤122)
         ·rw [if_pos c9] at H
          have c9b0:decide ((bt a0 x3_2)≤122)=true:=decide_eq_true c9
          clear c9
          have H':=Aside0.mk H
          clear H
          have p7:0≤(x3_2:Int):=of_decide_eq_true (by first | (with_reducible assumption) | assumption)
          have q7:x3_2<(a0.size:Int):=of_decide_eq_true (by first | (with_reducible assumption) | assumption)
          have hx7:=bt_at a0 x3_2
          replace p7:=eq_true p7
          replace q7:=eq_true q7
          go_wp2
          go_roundg k2
          case measure=>have:=HJ1.out;have:=HK2.out;omega
          case rel=>exact ⟨(wrap64 (x3_2+1)),(by first | rfl | (simp;done) | (simp [*];done) | (simp [bne];done)),H',⟨by have:=HJ1.out;have:=HK2.out;omega⟩,by repeat (first | exact Drawn0.refl _ | apply Drawn0.step)⟩
         ·rw [if_neg c9] at H
          have c9b0:decide ((bt a0 x3_2)≤122)=false:=decide_eq_false c9
          clear c9
          by_cases c10:x3_2=0
          ·rw [if_pos c10] at H
           have c10b0:(x3_2 == 0)=true:=beq_iff_eq.mpr c10
           have c10b1:(x3_2 != 0)=false:=bne_eq_false_iff_eq.mpr c10
           clear c10
           obtain rfl:=Option.some.inj H
           have p7:0≤(x3_2:Int):=of_decide_eq_true (by first | (with_reducible assumption) | assumption)
           have q7:x3_2<(a0.size:Int):=of_decide_eq_true (by first | (with_reducible assumption) | assumption)
           have hx7:=bt_at a0 x3_2
           replace p7:=eq_true p7
           replace q7:=eq_true q7
           go_wp2
           go_ret
           exact ⟨by first | rfl | (simp;done) | (simp [*];done) | (simp [bne];done),by repeat (first | exact Drawn0.refl _ | apply Drawn0.step)⟩
          ·rw [if_neg c10] at H
           have c10b0:(x3_2 == 0)=false:=beq_eq_false_iff_ne.mpr c10
           have c10b1:(x3_2 != 0)=true:=bne_iff_ne.mpr c10
           by_cases c11:(bt a0 x3_2)≥48
           ·rw [if_pos c11] at H
            have c11b0:decide (48≤(bt a0 x3_2))=true:=decide_eq_true c11
            clear c11
            by_cases c12:((bt a0 x3_2)≤57)
            ·rw [if_pos c12] at H
             have c12b0:decide ((bt a0 x3_2)≤57)=true:=decide_eq_true c12
             clear c12
             have H':=Aside0.mk H
             clear H
             have p7:0≤(x3_2:Int):=of_decide_eq_true (by first | (with_reducible assumption) | assumption)
             have q7:x3_2<(a0.size:Int):=of_decide_eq_true (by first | (with_reducible assumption) | assumption)
             have hx7:=bt_at a0 x3_2
             replace p7:=eq_true p7
             replace q7:=eq_true q7
             go_wp2
             go_roundg k2
             case measure=>have:=HJ1.out;have:=HK2.out;omega
             case rel=>exact ⟨(wrap64 (x3_2+1)),(by first | rfl | (simp;done) | (simp [*];done) | (simp [bne];done)),H',⟨by have:=HJ1.out;have:=HK2.out;omega⟩,by repeat (first | exact Drawn0.refl _ | apply Drawn0.step)⟩
            ·rw [if_neg c12] at H
             have c12b0:decide ((bt a0 x3_2)≤57)=false:=decide_eq_false c12
             clear c12
             by_cases c13:(bt a0 x3_2)=95
             ·rw [if_pos c13] at H
              have c13b0:((bt a0 x3_2) == 95)=true:=beq_iff_eq.mpr c13
              have c13b1:((bt a0 x3_2) != 95)=false:=bne_eq_false_iff_eq.mpr c13
              clear c13
              have H':=Aside0.mk H
              clear H
              have p7:0≤(x3_2:Int):=of_decide_eq_true (by first | (with_reducible assumption) | assumption)
              have q7:x3_2<(a0.size:Int):=of_decide_eq_true (by first | (with_reducible assumption) | assumption)
              have hx7:=bt_at a0 x3_2
              replace p7:=eq_true p7
              replace q7:=eq_true q7
              go_wp2
              go_roundg k2
              case measure=>have:=HJ1.out;have:=HK2.out;omega
              case rel=>exact ⟨(wrap64 (x3_2+1)),(by first | rfl | (simp;done) | (simp [*];done) | (simp [bne];done)),H',⟨by have:=HJ1.out;have:=HK2.out;omega⟩,by repeat (first | exact Drawn0.refl _ | apply Drawn0.step)⟩
             ·rw [if_neg c13] at H
              have c13b0:((bt a0 x3_2) == 95)=false:=beq_eq_false_iff_ne.mpr c13
              have c13b1:((bt a0 x3_2) != 95)=true:=bne_iff_ne.mpr c13
              obtain rfl:=Option.some.inj H
              have p7:0≤(x3_2:Int):=of_decide_eq_true (by first | (with_reducible assumption) | assumption)
              have q7:x3_2<(a0.size:Int):=of_decide_eq_true (by first | (with_reducible assumption) | assumption)
              have hx7:=bt_at a0 x3_2
              replace p7:=eq_true p7
              replace q7:=eq_true q7
              go_wp2
              go_ret
              exact ⟨by first | rfl | (simp;done) | (simp [*];done) | (simp [bne];done),by repeat (first | exact Drawn0.refl _ | apply Drawn0.step)⟩
           ·rw [if_neg c11] at H
            have c11b0:decide (48≤(bt a0 x3_2))=false:=decide_eq_false c11
            clear c11
            by_cases c14:(bt a0 x3_2)=95
            ·rw [if_pos c14] at H
             have c14b0:((bt a0 x3_2) == 95)=true:=beq_iff_eq.mpr c14
             have c14b1:((bt a0 x3_2) != 95)=false:=bne_eq_false_iff_eq.mpr c14
             clear c14
             have H':=Aside0.mk H
             clear H
             have p7:0≤(x3_2:Int):=of_decide_eq_true (by first | (with_reducible assumption) | assumption)
             have q7:x3_2<(a0.size:Int):=of_decide_eq_true (by first | (with_reducible assumption) | assumption)
             have hx7:=bt_at a0 x3_2
             replace p7:=eq_true p7
             replace q7:=eq_true q7
             go_wp2
             go_roundg k2
             case measure=>have:=HJ1.out;have:=HK2.out;omega
             case rel=>exact ⟨(wrap64 (x3_2+1)),(by first | rfl | (simp;done) | (simp [*];done) | (simp [bne];done)),H',⟨by have:=HJ1.out;have:=HK2.out;omega⟩,by repeat (first | exact Drawn0.refl _ | apply Drawn0.step)⟩
            ·rw [if_neg c14] at H
             have c14b0:((bt a0 x3_2) == 95)=false:=beq_eq_false_iff_ne.mpr c14
             have c14b1:((bt a0 x3_2) != 95)=true:=bne_iff_ne.mpr c14
             obtain rfl:=Option.some.inj H
             have p7:0≤(x3_2:Int):=of_decide_eq_true (by first | (with_reducible assumption) | assumption)
             have q7:x3_2<(a0.size:Int):=of_decide_eq_true (by first | (with_reducible assumption) | assumption)
             have hx7:=bt_at a0 x3_2
             replace p7:=eq_true p7
             replace q7:=eq_true q7
             go_wp2
             go_ret
             exact ⟨by first | rfl | (simp;done) | (simp [*];done) | (simp [bne];done),by repeat (first | exact Drawn0.refl _ | apply Drawn0.step)⟩
        ·rw [if_neg c8] at H
         have c8b0:decide (97≤(bt a0 x3_2))=false:=decide_eq_false c8
         clear c8
         by_cases c15:x3_2=0
         ·rw [if_pos c15] at H
          have c15b0:(x3_2 == 0)=true:=beq_iff_eq.mpr c15
          have c15b1:(x3_2 != 0)=false:=bne_eq_false_iff_eq.mpr c15
          clear c15
          obtain rfl:=Option.some.inj H
          have p7:0≤(x3_2:Int):=of_decide_eq_true (by first | (with_reducible assumption) | assumption)
          have q7:x3_2<(a0.size:Int):=of_decide_eq_true (by first | (with_reducible assumption) | assumption)
          have hx7:=bt_at a0 x3_2
          replace p7:=eq_true p7
          replace q7:=eq_true q7
          go_wp2
          go_ret
          exact ⟨by first | rfl | (simp;done) | (simp [*];done) | (simp [bne];done),by repeat (first | exact Drawn0.refl _ | apply Drawn0.step)⟩
         ·rw [if_neg c15] at H
          have c15b0:(x3_2 == 0)=false:=beq_eq_false_iff_ne.mpr c15
          have c15b1:(x3_2 != 0)=true:=bne_iff_ne.mpr c15
          by_cases c16:(bt a0 x3_2)≥48
          ·rw [if_pos c16] at H
           have c16b0:decide (48≤(bt a0 x3_2))=true:=decide_eq_true c16
           clear c16
           by_cases c17:((bt a0 x3_2)≤57)
           ·rw [if_pos c17] at H
            have c17b0:decide ((bt a0 x3_2)≤57)=true:=decide_eq_true c17
            clear c17
            have H':=Aside0.mk H
            clear H
            have p7:0≤(x3_2:Int):=of_decide_eq_true (by first | (with_reducible assumption) | assumption)
            have q7:x3_2<(a0.size:Int):=of_decide_eq_true (by first | (with_reducible assumption) | assumption)
            have hx7:=bt_at a0 x3_2
            replace p7:=eq_true p7
            replace q7:=eq_true q7
            go_wp2
            go_roundg k2
            case measure=>have:=HJ1.out;have:=HK2.out;omega
            case rel=>exact ⟨(wrap64 (x3_2+1)),(by first | rfl | (simp;done) | (simp [*];done) | (simp [bne];done)),H',⟨by have:=HJ1.out;have:=HK2.out;omega⟩,by repeat (first | exact Drawn0.refl _ | apply Drawn0.step)⟩
           ·rw [if_neg c17] at H
            have c17b0:decide ((bt a0 x3_2)≤57)=false:=decide_eq_false c17
            clear c17
            by_cases c18:(bt a0 x3_2)=95
            ·rw [if_pos c18] at H
             have c18b0:((bt a0 x3_2) == 95)=true:=beq_iff_eq.mpr c18
             have c18b1:((bt a0 x3_2) != 95)=false:=bne_eq_false_iff_eq.mpr c18
             clear c18
             have H':=Aside0.mk H
             clear H
             have p7:0≤(x3_2:Int):=of_decide_eq_true (by first | (with_reducible assumption) | assumption)
             have q7:x3_2<(a0.size:Int):=of_decide_eq_true (by first | (with_reducible assumption) | assumption)
             have hx7:=bt_at a0 x3_2
             replace p7:=eq_true p7
             replace q7:=eq_true q7
             go_wp2
             go_roundg k2
             case measure=>have:=HJ1.out;have:=HK2.out;omega
             case rel=>exact ⟨(wrap64 (x3_2+1)),(by first | rfl | (simp;done) | (simp [*];done) | (simp [bne];done)),H',⟨by have:=HJ1.out;have:=HK2.out;omega⟩,by repeat (first | exact Drawn0.refl _ | apply Drawn0.step)⟩
            ·rw [if_neg c18] at H
             have c18b0:((bt a0 x3_2) == 95)=false:=beq_eq_false_iff_ne.mpr c18
             have c18b1:((bt a0 x3_2) != 95)=true:=bne_iff_ne.mpr c18
             obtain rfl:=Option.some.inj H
             have p7:0≤(x3_2:Int):=of_decide_eq_true (by first | (with_reducible assumption) | assumption)
             have q7:x3_2<(a0.size:Int):=of_decide_eq_true (by first | (with_reducible assumption) | assumption)
             have hx7:=bt_at a0 x3_2
             replace p7:=eq_true p7
             replace q7:=eq_true q7
             go_wp2
             go_ret
             exact ⟨by first | rfl | (simp;done) | (simp [*];done) | (simp [bne];done),by repeat (first | exact Drawn0.refl _ | apply Drawn0.step)⟩
          ·rw [if_neg c16] at H
           have c16b0:decide (48≤(bt a0 x3_2))=false:=decide_eq_false c16
           clear c16
           by_cases c19:(bt a0 x3_2)=95
           ·rw [if_pos c19] at H
            have c19b0:((bt a0 x3_2) == 95)=true:=beq_iff_eq.mpr c19
            have c19b1:((bt a0 x3_2) != 95)=false:=bne_eq_false_iff_eq.mpr c19
            clear c19
            have H':=Aside0.mk H
            clear H
            have p7:0≤(x3_2:Int):=of_decide_eq_true (by first | (with_reducible assumption) | assumption)
            have q7:x3_2<(a0.size:Int):=of_decide_eq_true (by first | (with_reducible assumption) | assumption)
            have hx7:=bt_at a0 x3_2
            replace p7:=eq_true p7
            replace q7:=eq_true q7
            go_wp2
            go_roundg k2
            case measure=>have:=HJ1.out;have:=HK2.out;omega
            case rel=>exact ⟨(wrap64 (x3_2+1)),(by first | rfl | (simp;done) | (simp [*];done) | (simp [bne];done)),H',⟨by have:=HJ1.out;have:=HK2.out;omega⟩,by repeat (first | exact Drawn0.refl _ | apply Drawn0.step)⟩
           ·rw [if_neg c19] at H
            have c19b0:((bt a0 x3_2) == 95)=false:=beq_eq_false_iff_ne.mpr c19
            have c19b1:((bt a0 x3_2) != 95)=true:=bne_iff_ne.mpr c19
            obtain rfl:=Option.some.inj H
            have p7:0≤(x3_2:Int):=of_decide_eq_true (by first | (with_reducible assumption) | assumption)
            have q7:x3_2<(a0.size:Int):=of_decide_eq_true (by first | (with_reducible assumption) | assumption)
            have hx7:=bt_at a0 x3_2
            replace p7:=eq_true p7
            replace q7:=eq_true q7
            go_wp2
            go_ret
            exact ⟨by first | rfl | (simp;done) | (simp [*];done) | (simp [bne];done),by repeat (first | exact Drawn0.refl _ | apply Drawn0.step)⟩
       ·rw [if_neg c6] at H
        exact absurd H (by simp)
      ·rw [if_neg c5] at H
       have c5b0:decide (x3_2<(a0.size:Int))=false:=decide_eq_false c5
       clear c5
       obtain rfl:=Option.some.inj H
       go_wp2
       go_ret
       exact ⟨by first | rfl | (simp;done) | (simp [*];done) | (simp [bne];done),by repeat (first | exact Drawn0.refl _ | apply Drawn0.step)⟩


/-! ### Y36: function 29 -/
def Y36.f (a0:Int):Option (Bool):=if a0≥1 then (if a0≤3 then (some true) else (if a0=5 then (some true) else (some (a0 == 14)))) else (if a0=5 then (some true) else (some (a0 == 14)))
set_option maxHeartbeats 8000000 in
set_option maxRecDepth 100000 in
theorem Y36.calls (a0:Int) (r:Bool) (w:World) (h:Y36.f a0=some r) :
  Calls Tryd.prog 29 #[.int .i64 a0] w fun e w'=>e = .returned (.bool r)∧Drawn0 w w':=by
 have H:(if a0≥1 then (if a0≤3 then (some true) else (if a0=5 then (some true) else (some (a0 == 14)))) else (if a0=5 then (some true) else (some (a0 == 14))))=some r:=h
 clear h
 by_cases c2:a0≥1
 ·rw [if_pos c2] at H
  have c2b0:decide (1≤a0)=true:=decide_eq_true c2
  clear c2
  by_cases c3:a0≤3
  ·rw [if_pos c3] at H
   have c3b0:decide (a0≤3)=true:=decide_eq_true c3
   clear c3
   obtain rfl:=Option.some.inj H
   go_enter Tryd.func29,Tryd.ntmps29
   go_wp2
   go_ret
   exact ⟨by first | rfl | (simp;done) | (simp [*];done) | (simp [bne];done),by repeat (first | exact Drawn0.refl _ | apply Drawn0.step)⟩
  ·rw [if_neg c3] at H
   have c3b0:decide (a0≤3)=false:=decide_eq_false c3
   clear c3
   by_cases c4:a0=5
   ·rw [if_pos c4] at H
    have c4b0:(a0 == 5)=true:=beq_iff_eq.mpr c4
    have c4b1:(a0 != 5)=false:=bne_eq_false_iff_eq.mpr c4
    clear c4
    obtain rfl:=Option.some.inj H
    go_enter Tryd.func29,Tryd.ntmps29
    go_wp2
    go_ret
    exact ⟨by first | rfl | (simp;done) | (simp [*];done) | (simp [bne];done),by repeat (first | exact Drawn0.refl _ | apply Drawn0.step)⟩
   ·rw [if_neg c4] at H
    have c4b0:(a0 == 5)=false:=beq_eq_false_iff_ne.mpr c4
    have c4b1:(a0 != 5)=true:=bne_iff_ne.mpr c4
    obtain rfl:=Option.some.inj H
    go_enter Tryd.func29,Tryd.ntmps29
    go_wp2
    go_ret
    exact ⟨by first | rfl | (simp;done) | (simp [*];done) | (simp [bne];done),by repeat (first | exact Drawn0.refl _ | apply Drawn0.step)⟩
 ·rw [if_neg c2] at H
  have c2b0:decide (1≤a0)=false:=decide_eq_false c2
  clear c2
  by_cases c5:a0=5
  ·rw [if_pos c5] at H
   have c5b0:(a0 == 5)=true:=beq_iff_eq.mpr c5
   have c5b1:(a0 != 5)=false:=bne_eq_false_iff_eq.mpr c5
   clear c5
   obtain rfl:=Option.some.inj H
   go_enter Tryd.func29,Tryd.ntmps29
   go_wp2
   go_ret
   exact ⟨by first | rfl | (simp;done) | (simp [*];done) | (simp [bne];done),by repeat (first | exact Drawn0.refl _ | apply Drawn0.step)⟩
  ·rw [if_neg c5] at H
   have c5b0:(a0 == 5)=false:=beq_eq_false_iff_ne.mpr c5
   have c5b1:(a0 != 5)=true:=bne_iff_ne.mpr c5
   obtain rfl:=Option.some.inj H
   go_enter Tryd.func29,Tryd.ntmps29
   go_wp2
   go_ret
   exact ⟨by first | rfl | (simp;done) | (simp [*];done) | (simp [bne];done),by repeat (first | exact Drawn0.refl _ | apply Drawn0.step)⟩


/-! ### Y37: function 30 -/
def Y37.f (a0:Int):Option (Bool):=(Y25.f a0 (-1) 10000).bind fun t114=>(some t114)
set_option maxHeartbeats 8000000 in
set_option maxRecDepth 100000 in
theorem Y37.calls (a0:Int) (r:Bool) (w:World) (h:Y37.f a0=some r) :
  Calls Tryd.prog 30 #[.int .i64 a0] w fun e w'=>e = .returned (.bool r)∧Drawn0 w w':=by
 have H:((Y25.f a0 (-1) 10000).bind fun t114=>(some t114))=some r:=h
 clear h
 replace H:=Option.bind_eq_some_iff.mp H
 obtain ⟨t114,A20,H⟩:=H
 replace H:(some t114)=some r:=H
 have A2:=Aside0.mk A20
 clear A20
 obtain rfl:=Option.some.inj H
 go_enter Tryd.func30,Tryd.ntmps30
 go_wp2_with (first | ((with_reducible refine gate_callee (f:=27) rfl ?_);refine goesL_ (some 4) rfl rfl Tryd.func27 (by kernel_rfl) rfl #[.int .i64 a0,.int .i64 (-1),.int .i64 10000] rfl (by (try simp only [List.map_toArray,List.map_cons,List.map_nil]);first | done | rfl | (simp only [List.length_drop,List.length_take];rfl)) ?_;(with_reducible refine (Y25.calls a0 (-1) 10000 t114 _ A2.out).mono ?_);rintro e w' ⟨rfl,⟨nd,rfl⟩⟩;refine ⟨_,rfl,?_⟩))
 go_ret
 exact ⟨by first | rfl | (simp;done) | (simp [*];done) | (simp [bne];done),by repeat (first | exact Drawn0.refl _ | apply Drawn0.step)⟩


/-! ### Y5: function 15 -/
mutual
def Y5.j0:Nat→Bool→Bool→Bool→Bool→Bool→Int→Int→Int→ByteArray→ByteArray→Int→Option (Bool)
 | 0,_,_,_,_,_,_,_,_,_,_,_=>none
 | k+1,x3,x4,x5,x6,x15,x116000,x116001,x116002,x116003,x116004,x116005=>if x15=true then (some false) else (if x3=true then (if x4=true then (Y5.j1 k x5 x6 false x116000 x116001 x116002 x116003 x116004 x116005) else (Y5.j1 k x5 x6 (x116002 != 0) x116000 x116001 x116002 x116003 x116004 x116005)) else (if x116001=0 then (if x4=true then (Y5.j1 k x5 x6 false x116000 x116001 x116002 x116003 x116004 x116005) else (Y5.j1 k x5 x6 (x116002 != 0) x116000 x116001 x116002 x116003 x116004 x116005)) else (Y5.j1 k x5 x6 true x116000 x116001 x116002 x116003 x116004 x116005)))
def Y5.j1:Nat→Bool→Bool→Bool→Int→Int→Int→ByteArray→ByteArray→Int→Option (Bool)
 | 0,_,_,_,_,_,_,_,_,_=>none
 | k+1,x5,x6,x32,x116000,x116001,x116002,x116003,x116004,x116005=>if x32=true then (some false) else ((Y11.f k x116003).bind fun t123=>(if (x5 != t123)=true then (Y5.j2 k x6 true x116000 x116001 x116002 x116003 x116004 x116005) else (if x5=true then (Y5.j2 k x6 false x116000 x116001 x116002 x116003 x116004 x116005) else (Y5.j2 k x6 (x116003.toList != ([]:List UInt8)) x116000 x116001 x116002 x116003 x116004 x116005))))
def Y5.j2:Nat→Bool→Bool→Int→Int→Int→ByteArray→ByteArray→Int→Option (Bool)
 | 0,_,_,_,_,_,_,_,_=>none
 | k+1,x6,x49,x116000,x116001,x116002,x116003,x116004,x116005=>if x49=true then (some false) else ((Y11.f k x116004).bind fun t124=>(if (x6 != t124)=true then (Y5.j3 k true x116000 x116001 x116002 x116003 x116004 x116005) else (if x6=true then (Y5.j3 k (decide ((x116004.size:Int)>16)) x116000 x116001 x116002 x116003 x116004 x116005) else (if x116004.toList=([]:List UInt8) then (Y5.j3 k (decide ((x116004.size:Int)>16)) x116000 x116001 x116002 x116003 x116004 x116005) else (Y5.j3 k true x116000 x116001 x116002 x116003 x116004 x116005)))))
def Y5.j3:Nat→Bool→Int→Int→Int→ByteArray→ByteArray→Int→Option (Bool)
 | 0,_,_,_,_,_,_,_=>none
 | k+1,x64,x116000,x116001,x116002,x116003,x116004,x116005=>if x64=true then (some false) else (if x116005=(-1) then (some true) else ((Y36.f x116000).bind fun t125=>(if t125=true then ((Y37.f x116005).bind fun t126=>(some t126)) else (some false))))
end
def Y5.f (k:Nat) (a0_0:Int) (a0_1:Int) (a0_2:Int) (a0_3:ByteArray) (a0_4:ByteArray) (a0_5:Int):Option (Bool):=(Y12.f k a0_0).bind fun bt116=>((Y9.f k a0_0).bind fun t120=>(if t120.toList=([]:List UInt8) then (Y5.j0 k bt116.1 bt116.2.1 bt116.2.2.1 bt116.2.2.2 true a0_0 a0_1 a0_2 a0_3 a0_4 a0_5) else ((Y25.f a0_1 0 999999).bind fun t121=>(if t121=true then ((Y25.f a0_2 0 999999).bind fun t122=>(Y5.j0 k bt116.1 bt116.2.1 bt116.2.2.1 bt116.2.2.2 (!t122) a0_0 a0_1 a0_2 a0_3 a0_4 a0_5)) else (Y5.j0 k bt116.1 bt116.2.1 bt116.2.2.1 bt116.2.2.2 true a0_0 a0_1 a0_2 a0_3 a0_4 a0_5)))))
theorem Y5.mono_l:∀ k,(∀ y0 y1 y2 y3 y4 y5 y6 y7 y8 y9 y10,LeO (Y5.j0 k y0 y1 y2 y3 y4 y5 y6 y7 y8 y9 y10) (Y5.j0 (k+1) y0 y1 y2 y3 y4 y5 y6 y7 y8 y9 y10))∧(∀ y0 y1 y2 y3 y4 y5 y6 y7 y8,LeO (Y5.j1 k y0 y1 y2 y3 y4 y5 y6 y7 y8) (Y5.j1 (k+1) y0 y1 y2 y3 y4 y5 y6 y7 y8))∧(∀ y0 y1 y2 y3 y4 y5 y6 y7,LeO (Y5.j2 k y0 y1 y2 y3 y4 y5 y6 y7) (Y5.j2 (k+1) y0 y1 y2 y3 y4 y5 y6 y7))∧(∀ y0 y1 y2 y3 y4 y5 y6,LeO (Y5.j3 k y0 y1 y2 y3 y4 y5 y6) (Y5.j3 (k+1) y0 y1 y2 y3 y4 y5 y6))
 | 0=>⟨fun _ _ _ _ _ _ _ _ _ _ _ r h=>by simp [Y5.j0] at h,fun _ _ _ _ _ _ _ _ _ r h=>by simp [Y5.j1] at h,fun _ _ _ _ _ _ _ _ r h=>by simp [Y5.j2] at h,fun _ _ _ _ _ _ _ r h=>by simp [Y5.j3] at h⟩
 | k+1=>by
  obtain ⟨ih0,ih1,ih2,ih3⟩:=Y5.mono_l k
  refine ⟨?_,?_,?_,?_⟩
  ·intro y0 y1 y2 y3 y4 y5 y6 y7 y8 y9 y10
   unfold Y5.j0
   repeat' first
   | (with_reducible exact ih0 _ _ _ _ _ _ _ _ _ _ _)
   | (with_reducible exact ih1 _ _ _ _ _ _ _ _ _)
   | (with_reducible exact ih2 _ _ _ _ _ _ _ _)
   | (with_reducible exact ih3 _ _ _ _ _ _ _)
   | (with_reducible exact Y11.mono _ _)
   | (with_reducible exact Y12.mono _ _)
   | (with_reducible exact Y9.mono _ _)
   | (with_reducible exact LeO.refl _)
   | (with_reducible exact LeO.none _)
   | (with_reducible refine LeO.ite ?_ ?_)
   | (with_reducible refine LeO.bind ?_ (fun _=>?_))
   | exact ih0 _ _ _ _ _ _ _ _ _ _ _
   | exact ih1 _ _ _ _ _ _ _ _ _
   | exact ih2 _ _ _ _ _ _ _ _
   | exact ih3 _ _ _ _ _ _ _
   | exact Y11.mono _ _
   | exact Y12.mono _ _
   | exact Y9.mono _ _
   | exact LeO.none _
   | refine LeO.ite ?_ ?_
   | refine LeO.bind ?_ (fun _=>?_)
  ·intro y0 y1 y2 y3 y4 y5 y6 y7 y8
   unfold Y5.j1
   repeat' first
   | (with_reducible exact ih0 _ _ _ _ _ _ _ _ _ _ _)
   | (with_reducible exact ih1 _ _ _ _ _ _ _ _ _)
   | (with_reducible exact ih2 _ _ _ _ _ _ _ _)
   | (with_reducible exact ih3 _ _ _ _ _ _ _)
   | (with_reducible exact Y11.mono _ _)
   | (with_reducible exact Y12.mono _ _)
   | (with_reducible exact Y9.mono _ _)
   | (with_reducible exact LeO.refl _)
   | (with_reducible exact LeO.none _)
   | (with_reducible refine LeO.ite ?_ ?_)
   | (with_reducible refine LeO.bind ?_ (fun _=>?_))
   | exact ih0 _ _ _ _ _ _ _ _ _ _ _
   | exact ih1 _ _ _ _ _ _ _ _ _
   | exact ih2 _ _ _ _ _ _ _ _
   | exact ih3 _ _ _ _ _ _ _
   | exact Y11.mono _ _
   | exact Y12.mono _ _
   | exact Y9.mono _ _
   | exact LeO.none _
   | refine LeO.ite ?_ ?_
   | refine LeO.bind ?_ (fun _=>?_)
  ·intro y0 y1 y2 y3 y4 y5 y6 y7
   unfold Y5.j2
   repeat' first
   | (with_reducible exact ih0 _ _ _ _ _ _ _ _ _ _ _)
   | (with_reducible exact ih1 _ _ _ _ _ _ _ _ _)
   | (with_reducible exact ih2 _ _ _ _ _ _ _ _)
   | (with_reducible exact ih3 _ _ _ _ _ _ _)
   | (with_reducible exact Y11.mono _ _)
   | (with_reducible exact Y12.mono _ _)
   | (with_reducible exact Y9.mono _ _)
   | (with_reducible exact LeO.refl _)
   | (with_reducible exact LeO.none _)
   | (with_reducible refine LeO.ite ?_ ?_)
   | (with_reducible refine LeO.bind ?_ (fun _=>?_))
   | exact ih0 _ _ _ _ _ _ _ _ _ _ _
   | exact ih1 _ _ _ _ _ _ _ _ _
   | exact ih2 _ _ _ _ _ _ _ _
   | exact ih3 _ _ _ _ _ _ _
   | exact Y11.mono _ _
   | exact Y12.mono _ _
   | exact Y9.mono _ _
   | exact LeO.none _
   | refine LeO.ite ?_ ?_
   | refine LeO.bind ?_ (fun _=>?_)
  ·intro y0 y1 y2 y3 y4 y5 y6
   unfold Y5.j3
   repeat' first
   | (with_reducible exact ih0 _ _ _ _ _ _ _ _ _ _ _)
   | (with_reducible exact ih1 _ _ _ _ _ _ _ _ _)
   | (with_reducible exact ih2 _ _ _ _ _ _ _ _)
   | (with_reducible exact ih3 _ _ _ _ _ _ _)
   | (with_reducible exact Y11.mono _ _)
   | (with_reducible exact Y12.mono _ _)
   | (with_reducible exact Y9.mono _ _)
   | (with_reducible exact LeO.refl _)
   | (with_reducible exact LeO.none _)
   | (with_reducible refine LeO.ite ?_ ?_)
   | (with_reducible refine LeO.bind ?_ (fun _=>?_))
   | exact ih0 _ _ _ _ _ _ _ _ _ _ _
   | exact ih1 _ _ _ _ _ _ _ _ _
   | exact ih2 _ _ _ _ _ _ _ _
   | exact ih3 _ _ _ _ _ _ _
   | exact Y11.mono _ _
   | exact Y12.mono _ _
   | exact Y9.mono _ _
   | exact LeO.none _
   | refine LeO.ite ?_ ?_
   | refine LeO.bind ?_ (fun _=>?_)
theorem Y5.mono:∀ a0 a1 a2 a3 a4 a5 k,LeO (Y5.f k a0 a1 a2 a3 a4 a5) (Y5.f (k+1) a0 a1 a2 a3 a4 a5):=by
 intro a0 a1 a2 a3 a4 a5 k
 obtain ⟨ih0,ih1,ih2,ih3⟩:=Y5.mono_l k
 unfold Y5.f
 repeat' first
   | (with_reducible exact ih0 _ _ _ _ _ _ _ _ _ _ _)
   | (with_reducible exact ih1 _ _ _ _ _ _ _ _ _)
   | (with_reducible exact ih2 _ _ _ _ _ _ _ _)
   | (with_reducible exact ih3 _ _ _ _ _ _ _)
   | (with_reducible exact Y11.mono _ _)
   | (with_reducible exact Y12.mono _ _)
   | (with_reducible exact Y9.mono _ _)
   | (with_reducible exact LeO.refl _)
   | (with_reducible exact LeO.none _)
   | (with_reducible refine LeO.ite ?_ ?_)
   | (with_reducible refine LeO.bind ?_ (fun _=>?_))
   | exact ih0 _ _ _ _ _ _ _ _ _ _ _
   | exact ih1 _ _ _ _ _ _ _ _ _
   | exact ih2 _ _ _ _ _ _ _ _
   | exact ih3 _ _ _ _ _ _ _
   | exact Y11.mono _ _
   | exact Y12.mono _ _
   | exact Y9.mono _ _
   | exact LeO.none _
   | refine LeO.ite ?_ ?_
   | refine LeO.bind ?_ (fun _=>?_)
set_option maxHeartbeats 8000000 in
set_option maxRecDepth 100000 in
theorem Y5.calls (k:Nat) (a0_0:Int) (a0_1:Int) (a0_2:Int) (a0_3:ByteArray) (a0_4:ByteArray) (a0_5:Int) (r:Bool) (w:World) (h:Y5.f k a0_0 a0_1 a0_2 a0_3 a0_4 a0_5=some r) :
  Calls Tryd.prog 15 #[.agg #[.int .i64 a0_0,.int .i64 a0_1,.int .i64 a0_2,.string a0_3,.string a0_4,.int .i64 a0_5]] w fun e w'=>e = .returned (.bool r)∧Below w.heap.size w w':=by
 have hu23:=Tryd.underlying23
 have HB:=Aside0.mk (Below.refl w.heap.size w)
 have H:((Y12.f k a0_0).bind fun bt116=>((Y9.f k a0_0).bind fun t120=>(if t120.toList=([]:List UInt8) then (Y5.j0 k bt116.1 bt116.2.1 bt116.2.2.1 bt116.2.2.2 true a0_0 a0_1 a0_2 a0_3 a0_4 a0_5) else ((Y25.f a0_1 0 999999).bind fun t121=>(if t121=true then ((Y25.f a0_2 0 999999).bind fun t122=>(Y5.j0 k bt116.1 bt116.2.1 bt116.2.2.1 bt116.2.2.2 (!t122) a0_0 a0_1 a0_2 a0_3 a0_4 a0_5)) else (Y5.j0 k bt116.1 bt116.2.1 bt116.2.2.1 bt116.2.2.2 true a0_0 a0_1 a0_2 a0_3 a0_4 a0_5))))))=some r:=h
 clear h
 replace H:=Option.bind_eq_some_iff.mp H
 obtain ⟨⟨t116,t117,t118,t119⟩,A20,H⟩:=H
 replace H:((Y9.f k a0_0).bind fun t120=>(if t120.toList=([]:List UInt8) then (Y5.j0 k t116 t117 t118 t119 true a0_0 a0_1 a0_2 a0_3 a0_4 a0_5) else ((Y25.f a0_1 0 999999).bind fun t121=>(if t121=true then ((Y25.f a0_2 0 999999).bind fun t122=>(Y5.j0 k t116 t117 t118 t119 (!t122) a0_0 a0_1 a0_2 a0_3 a0_4 a0_5)) else (Y5.j0 k t116 t117 t118 t119 true a0_0 a0_1 a0_2 a0_3 a0_4 a0_5)))))=some r:=H
 have A2:=Aside0.mk A20
 clear A20
 have HC3:=Aside0.mk H
 clear H
 go_enter Tryd.func15,Tryd.ntmps15
 go_upto_region 2 with (first | ((with_reducible refine gate_dst (N:=1) rfl ?_);(try (refine gate_guard (by rfl) ?_;dsimp only));refine box_event ?hg (N:=1) ?hd (cs:=#[.int .i64 a0_0,.int .i64 a0_1,.int .i64 a0_2,.string a0_3,.string a0_4,.int .i64 a0_5]) (t:=23) ?hr ?_;(case hd=>rfl);(case hg=>rfl);(case hr=>first | (go_simp;done) | (go_simp;rfl));intro gb115 hg w4 hbox hb;have n0_:=Aside0.mk (below_step (by repeat (first | (with_reducible first | exact HB.out | apply below_alloc | apply pw_below_drewN | apply below_drew1) | exact HB.out)) hb);have n1_:=Aside0.mk (hbox);have n2_:=Aside0.mk ((by rw [hg];exact (below_size (by repeat (first | (with_reducible first | exact HB.out | apply below_alloc | apply pw_below_drewN | apply below_drew1) | exact HB.out))):w.heap.size≤gb115));have n3_:=Aside0.mk ((by rw [hg];exact (below_size (by repeat (first | (with_reducible first | exact HB.out | apply below_alloc | apply pw_below_drewN | apply below_drew1) | exact HB.out))):w.heap.size≤gb115));clear HB;have HB:=n0_;have BK115:=n1_;have GW115:=n2_;have GE115:=n3_;clear n0_ n1_ n2_ n3_;clear hb hbox hg;have hcz5_0:w4.cell? ⟨gb115,0,none⟩=some (.int .i64 a0_0):=(blk_cell BK115.out 0).trans rfl;have hcz5_1:w4.cell? ⟨gb115,1,none⟩=some (.int .i64 a0_1):=(blk_cell BK115.out 1).trans rfl;have hcz5_2:w4.cell? ⟨gb115,2,none⟩=some (.int .i64 a0_2):=(blk_cell BK115.out 2).trans rfl;have hcz5_3:w4.cell? ⟨gb115,3,none⟩=some (.string a0_3):=(blk_cell BK115.out 3).trans rfl;have hcz5_4:w4.cell? ⟨gb115,4,none⟩=some (.string a0_4):=(blk_cell BK115.out 4).trans rfl;have hcz5_5:w4.cell? ⟨gb115,5,none⟩=some (.int .i64 a0_5):=(blk_cell BK115.out 5).trans rfl;have hfz5_0:=blk_frozen BK115.out 0;have hfz5_1:=blk_frozen BK115.out 1;have hfz5_2:=blk_frozen BK115.out 2;have hfz5_3:=blk_frozen BK115.out 3;have hfz5_4:=blk_frozen BK115.out 4;have hfz5_5:=blk_frozen BK115.out 5) | ((with_reducible refine gate_callee (f:=10) rfl ?_);refine goesL_ (some 10) rfl rfl Tryd.func10 (by kernel_rfl) rfl #[.int .i64 a0_0] rfl (by (try simp only [List.map_toArray,List.map_cons,List.map_nil]);first | done | rfl | (simp only [List.length_drop,List.length_take];rfl)) ?_;(with_reducible refine (Y12.calls k a0_0 t116 t117 t118 t119 _ A2.out).mono ?_);rintro e w' ⟨rfl,⟨nd,rfl⟩⟩;refine ⟨_,rfl,?_⟩))
 (try simp only [Act.put,sa_,s0_,ss_])
 go_cut [15] (fun v15 wc=>∃ (kq:Nat) (x15_2:Bool),v15 = .bool x15_2∧Aside0 (Y5.j0 kq t116 t117 t118 t119 x15_2 a0_0 a0_1 a0_2 a0_3 a0_4 a0_5=some r)∧Aside0 (kq≤k)∧Aside0 (wc.heap[gb115]? = some (.cells #[.int .i64 a0_0,.int .i64 a0_1,.int .i64 a0_2,.string a0_3,.string a0_4,.int .i64 a0_5] 23 (0,0)))∧Aside0 (Below w.heap.size w wc))
 case first =>
  have H:=HC3.out
  clear HC3
  replace H:=Option.bind_eq_some_iff.mp H
  obtain ⟨t120,A60,H⟩:=H
  replace H:(if t120.toList=([]:List UInt8) then (Y5.j0 k t116 t117 t118 t119 true a0_0 a0_1 a0_2 a0_3 a0_4 a0_5) else ((Y25.f a0_1 0 999999).bind fun t121=>(if t121=true then ((Y25.f a0_2 0 999999).bind fun t122=>(Y5.j0 k t116 t117 t118 t119 (!t122) a0_0 a0_1 a0_2 a0_3 a0_4 a0_5)) else (Y5.j0 k t116 t117 t118 t119 true a0_0 a0_1 a0_2 a0_3 a0_4 a0_5))))=some r:=H
  have A6:=Aside0.mk A60
  clear A60
  by_cases c7:t120.toList=([]:List UInt8)
  ·rw [if_pos c7] at H
   have c7b0:(t120.toList == ([]:List UInt8))=true:=beq_iff_eq.mpr c7
   have c7b1:(t120.toList != ([]:List UInt8))=false:=bne_eq_false_iff_eq.mpr c7
   clear c7
   (first | rw [c7b0] | (simp only [i64_w,i32_w];rw [c7b0]) | skip)
   have H':=Aside0.mk H
   clear H
   have hcz8_0:w4.cell? ⟨gb115,0,none⟩=some (.int .i64 a0_0):=(blk_cell BK115.out 0).trans rfl
   have hcz8_1:w4.cell? ⟨gb115,1,none⟩=some (.int .i64 a0_1):=(blk_cell BK115.out 1).trans rfl
   have hcz8_2:w4.cell? ⟨gb115,2,none⟩=some (.int .i64 a0_2):=(blk_cell BK115.out 2).trans rfl
   have hcz8_3:w4.cell? ⟨gb115,3,none⟩=some (.string a0_3):=(blk_cell BK115.out 3).trans rfl
   have hcz8_4:w4.cell? ⟨gb115,4,none⟩=some (.string a0_4):=(blk_cell BK115.out 4).trans rfl
   have hcz8_5:w4.cell? ⟨gb115,5,none⟩=some (.int .i64 a0_5):=(blk_cell BK115.out 5).trans rfl
   have hfz8_0:=blk_frozen BK115.out 0
   have hfz8_1:=blk_frozen BK115.out 1
   have hfz8_2:=blk_frozen BK115.out 2
   have hfz8_3:=blk_frozen BK115.out 3
   have hfz8_4:=blk_frozen BK115.out 4
   have hfz8_5:=blk_frozen BK115.out 5
   go_wp2_with (first | ((with_reducible refine gate_callee (f:=9) rfl ?_);refine goesL_ (some 18) rfl rfl Tryd.func9 (by kernel_rfl) rfl #[.int .i64 a0_0] rfl (by (try simp only [List.map_toArray,List.map_cons,List.map_nil]);first | done | rfl | (simp only [List.length_drop,List.length_take];rfl)) ?_;(with_reducible refine (Y9.calls k a0_0 t120 _ A6.out).mono ?_);rintro e w9 ⟨rfl,hb⟩;refine ⟨_,rfl,?_⟩;have n0_:=Aside0.mk (blk_below (g:=gb115) (o:=.cells #[.int .i64 a0_0,.int .i64 a0_1,.int .i64 a0_2,.string a0_3,.string a0_4,.int .i64 a0_5] 23 (0,0)) (by (with_reducible repeat (first | refine blk_drewN ?_ _ | refine blk_drew ?_ | refine blk_alloc ?_ _));exact BK115.out) hb);have n1_:=Aside0.mk (below_step (by repeat (first | (with_reducible first | exact HB.out | apply below_alloc | apply pw_below_drewN | apply below_drew1 | refine below_set ?_ GE115.out) | exact HB.out)) hb);clear BK115;clear HB;have BK115:=n0_;have HB:=n1_;clear n0_ n1_;(try clear hb);(try clear hb2);(try clear hk);(try clear hi)))
   go_meet
   case rel=>exact ⟨_,(true),(by first | rfl | (simp;done) | (simp [*];done) | (simp [bne];done)),H',⟨by first | omega | exact Nat.le_refl _⟩,⟨by (with_reducible repeat (first | refine blk_drewN ?_ _ | refine blk_drew ?_ | refine blk_alloc ?_ _));exact BK115.out⟩,⟨by repeat (first | (with_reducible first | exact HB.out | apply below_alloc | apply pw_below_drewN | apply below_drew1 | refine below_set ?_ GE115.out) | exact HB.out)⟩⟩
  ·rw [if_neg c7] at H
   have c7b0:(t120.toList == ([]:List UInt8))=false:=beq_eq_false_iff_ne.mpr c7
   have c7b1:(t120.toList != ([]:List UInt8))=true:=bne_iff_ne.mpr c7
   (first | rw [c7b0] | (simp only [i64_w,i32_w];rw [c7b0]) | skip)
   replace H:=Option.bind_eq_some_iff.mp H
   obtain ⟨t121,A100,H⟩:=H
   replace H:(if t121=true then ((Y25.f a0_2 0 999999).bind fun t122=>(Y5.j0 k t116 t117 t118 t119 (!t122) a0_0 a0_1 a0_2 a0_3 a0_4 a0_5)) else (Y5.j0 k t116 t117 t118 t119 true a0_0 a0_1 a0_2 a0_3 a0_4 a0_5))=some r:=H
   have A10:=Aside0.mk A100
   clear A100
   by_cases c11:t121=true
   ·subst c11
    have H1:((Y25.f a0_2 0 999999).bind fun t122=>(Y5.j0 k t116 t117 t118 t119 (!t122) a0_0 a0_1 a0_2 a0_3 a0_4 a0_5))=some r:=by rw [if_pos rfl] at H;exact H
    clear H
    have H:=H1
    clear H1
    replace H:=Option.bind_eq_some_iff.mp H
    obtain ⟨t122,A120,H⟩:=H
    replace H:(Y5.j0 k t116 t117 t118 t119 (!t122) a0_0 a0_1 a0_2 a0_3 a0_4 a0_5)=some r:=H
    have A12:=Aside0.mk A120
    clear A120
    have H':=Aside0.mk H
    clear H
    have hcz13_0:w4.cell? ⟨gb115,0,none⟩=some (.int .i64 a0_0):=(blk_cell BK115.out 0).trans rfl
    have hcz13_1:w4.cell? ⟨gb115,1,none⟩=some (.int .i64 a0_1):=(blk_cell BK115.out 1).trans rfl
    have hcz13_2:w4.cell? ⟨gb115,2,none⟩=some (.int .i64 a0_2):=(blk_cell BK115.out 2).trans rfl
    have hcz13_3:w4.cell? ⟨gb115,3,none⟩=some (.string a0_3):=(blk_cell BK115.out 3).trans rfl
    have hcz13_4:w4.cell? ⟨gb115,4,none⟩=some (.string a0_4):=(blk_cell BK115.out 4).trans rfl
    have hcz13_5:w4.cell? ⟨gb115,5,none⟩=some (.int .i64 a0_5):=(blk_cell BK115.out 5).trans rfl
    have hfz13_0:=blk_frozen BK115.out 0
    have hfz13_1:=blk_frozen BK115.out 1
    have hfz13_2:=blk_frozen BK115.out 2
    have hfz13_3:=blk_frozen BK115.out 3
    have hfz13_4:=blk_frozen BK115.out 4
    have hfz13_5:=blk_frozen BK115.out 5
    go_wp2_with (first | ((with_reducible refine gate_callee (f:=9) rfl ?_);refine goesL_ (some 18) rfl rfl Tryd.func9 (by kernel_rfl) rfl #[.int .i64 a0_0] rfl (by (try simp only [List.map_toArray,List.map_cons,List.map_nil]);first | done | rfl | (simp only [List.length_drop,List.length_take];rfl)) ?_;(with_reducible refine (Y9.calls k a0_0 t120 _ A6.out).mono ?_);rintro e w14 ⟨rfl,hb⟩;refine ⟨_,rfl,?_⟩;have n0_:=Aside0.mk (blk_below (g:=gb115) (o:=.cells #[.int .i64 a0_0,.int .i64 a0_1,.int .i64 a0_2,.string a0_3,.string a0_4,.int .i64 a0_5] 23 (0,0)) (by (with_reducible repeat (first | refine blk_drewN ?_ _ | refine blk_drew ?_ | refine blk_alloc ?_ _));exact BK115.out) hb);have n1_:=Aside0.mk (below_step (by repeat (first | (with_reducible first | exact HB.out | apply below_alloc | apply pw_below_drewN | apply below_drew1 | refine below_set ?_ GE115.out) | exact HB.out)) hb);clear BK115;clear HB;have BK115:=n0_;have HB:=n1_;clear n0_ n1_;(try clear hb);(try clear hb2);(try clear hk);(try clear hi);have hcz15_0:w14.cell? ⟨gb115,0,none⟩=some (.int .i64 a0_0):=(blk_cell BK115.out 0).trans rfl;have hcz15_1:w14.cell? ⟨gb115,1,none⟩=some (.int .i64 a0_1):=(blk_cell BK115.out 1).trans rfl;have hcz15_2:w14.cell? ⟨gb115,2,none⟩=some (.int .i64 a0_2):=(blk_cell BK115.out 2).trans rfl;have hcz15_3:w14.cell? ⟨gb115,3,none⟩=some (.string a0_3):=(blk_cell BK115.out 3).trans rfl;have hcz15_4:w14.cell? ⟨gb115,4,none⟩=some (.string a0_4):=(blk_cell BK115.out 4).trans rfl;have hcz15_5:w14.cell? ⟨gb115,5,none⟩=some (.int .i64 a0_5):=(blk_cell BK115.out 5).trans rfl;have hfz15_0:=blk_frozen BK115.out 0;have hfz15_1:=blk_frozen BK115.out 1;have hfz15_2:=blk_frozen BK115.out 2;have hfz15_3:=blk_frozen BK115.out 3;have hfz15_4:=blk_frozen BK115.out 4;have hfz15_5:=blk_frozen BK115.out 5) | (go_at_call 27;(with_reducible refine (Y25.calls a0_1 0 999999 true _ A10.out).mono ?_);rintro e w' ⟨rfl,⟨nd,rfl⟩⟩) | (go_at_call 27;(with_reducible refine (Y25.calls a0_2 0 999999 t122 _ A12.out).mono ?_);rintro e w' ⟨rfl,⟨nd,rfl⟩⟩))
    go_meet
    case rel=>exact ⟨_,(!t122),(by first | rfl | (simp;done) | (simp [*];done) | (simp [bne];done)),H',⟨by first | omega | exact Nat.le_refl _⟩,⟨by (with_reducible repeat (first | refine blk_drewN ?_ _ | refine blk_drew ?_ | refine blk_alloc ?_ _));exact BK115.out⟩,⟨by repeat (first | (with_reducible first | exact HB.out | apply below_alloc | apply pw_below_drewN | apply below_drew1 | refine below_set ?_ GE115.out) | exact HB.out)⟩⟩
   ·replace c11:=Bool.eq_false_iff.mpr c11
    subst c11
    have H1:(Y5.j0 k t116 t117 t118 t119 true a0_0 a0_1 a0_2 a0_3 a0_4 a0_5)=some r:=by rw [if_neg (show ¬ (false=true) by decide)] at H;exact H
    clear H
    have H:=H1
    clear H1
    have H':=Aside0.mk H
    clear H
    have hcz16_0:w4.cell? ⟨gb115,0,none⟩=some (.int .i64 a0_0):=(blk_cell BK115.out 0).trans rfl
    have hcz16_1:w4.cell? ⟨gb115,1,none⟩=some (.int .i64 a0_1):=(blk_cell BK115.out 1).trans rfl
    have hcz16_2:w4.cell? ⟨gb115,2,none⟩=some (.int .i64 a0_2):=(blk_cell BK115.out 2).trans rfl
    have hcz16_3:w4.cell? ⟨gb115,3,none⟩=some (.string a0_3):=(blk_cell BK115.out 3).trans rfl
    have hcz16_4:w4.cell? ⟨gb115,4,none⟩=some (.string a0_4):=(blk_cell BK115.out 4).trans rfl
    have hcz16_5:w4.cell? ⟨gb115,5,none⟩=some (.int .i64 a0_5):=(blk_cell BK115.out 5).trans rfl
    have hfz16_0:=blk_frozen BK115.out 0
    have hfz16_1:=blk_frozen BK115.out 1
    have hfz16_2:=blk_frozen BK115.out 2
    have hfz16_3:=blk_frozen BK115.out 3
    have hfz16_4:=blk_frozen BK115.out 4
    have hfz16_5:=blk_frozen BK115.out 5
    go_wp2_with (first | ((with_reducible refine gate_callee (f:=9) rfl ?_);refine goesL_ (some 18) rfl rfl Tryd.func9 (by kernel_rfl) rfl #[.int .i64 a0_0] rfl (by (try simp only [List.map_toArray,List.map_cons,List.map_nil]);first | done | rfl | (simp only [List.length_drop,List.length_take];rfl)) ?_;(with_reducible refine (Y9.calls k a0_0 t120 _ A6.out).mono ?_);rintro e w17 ⟨rfl,hb⟩;refine ⟨_,rfl,?_⟩;have n0_:=Aside0.mk (blk_below (g:=gb115) (o:=.cells #[.int .i64 a0_0,.int .i64 a0_1,.int .i64 a0_2,.string a0_3,.string a0_4,.int .i64 a0_5] 23 (0,0)) (by (with_reducible repeat (first | refine blk_drewN ?_ _ | refine blk_drew ?_ | refine blk_alloc ?_ _));exact BK115.out) hb);have n1_:=Aside0.mk (below_step (by repeat (first | (with_reducible first | exact HB.out | apply below_alloc | apply pw_below_drewN | apply below_drew1 | refine below_set ?_ GE115.out) | exact HB.out)) hb);clear BK115;clear HB;have BK115:=n0_;have HB:=n1_;clear n0_ n1_;(try clear hb);(try clear hb2);(try clear hk);(try clear hi);have hcz18_0:w17.cell? ⟨gb115,0,none⟩=some (.int .i64 a0_0):=(blk_cell BK115.out 0).trans rfl;have hcz18_1:w17.cell? ⟨gb115,1,none⟩=some (.int .i64 a0_1):=(blk_cell BK115.out 1).trans rfl;have hcz18_2:w17.cell? ⟨gb115,2,none⟩=some (.int .i64 a0_2):=(blk_cell BK115.out 2).trans rfl;have hcz18_3:w17.cell? ⟨gb115,3,none⟩=some (.string a0_3):=(blk_cell BK115.out 3).trans rfl;have hcz18_4:w17.cell? ⟨gb115,4,none⟩=some (.string a0_4):=(blk_cell BK115.out 4).trans rfl;have hcz18_5:w17.cell? ⟨gb115,5,none⟩=some (.int .i64 a0_5):=(blk_cell BK115.out 5).trans rfl;have hfz18_0:=blk_frozen BK115.out 0;have hfz18_1:=blk_frozen BK115.out 1;have hfz18_2:=blk_frozen BK115.out 2;have hfz18_3:=blk_frozen BK115.out 3;have hfz18_4:=blk_frozen BK115.out 4;have hfz18_5:=blk_frozen BK115.out 5) | (go_at_call 27;(with_reducible refine (Y25.calls a0_1 0 999999 false _ A10.out).mono ?_);rintro e w' ⟨rfl,⟨nd,rfl⟩⟩))
    go_meet
    case rel=>exact ⟨_,(true),(by first | rfl | (simp;done) | (simp [*];done) | (simp [bne];done)),H',⟨by first | omega | exact Nat.le_refl _⟩,⟨by (with_reducible repeat (first | refine blk_drewN ?_ _ | refine blk_drew ?_ | refine blk_alloc ?_ _));exact BK115.out⟩,⟨by repeat (first | (with_reducible first | exact HB.out | apply below_alloc | apply pw_below_drewN | apply below_drew1 | refine below_set ?_ GE115.out) | exact HB.out)⟩⟩
 case rest =>
  clear HC3
  try clear c1
  try clear p2
  try clear c7
  try clear c7b0
  try clear c7b1
  try clear c9
  try clear c10
  try clear c11
  try clear c15
  try clear hcz13_0
  try clear hcz13_1
  try clear hcz13_2
  try clear hcz13_3
  try clear hcz13_4
  try clear hcz13_5
  try clear hcz15_0
  try clear hcz15_1
  try clear hcz15_2
  try clear hcz15_3
  try clear hcz15_4
  try clear hcz15_5
  try clear hcz16_0
  try clear hcz16_1
  try clear hcz16_2
  try clear hcz16_3
  try clear hcz16_4
  try clear hcz16_5
  try clear hcz18_0
  try clear hcz18_1
  try clear hcz18_2
  try clear hcz18_3
  try clear hcz18_4
  try clear hcz18_5
  try clear hcz5_0
  try clear hcz5_1
  try clear hcz5_2
  try clear hcz5_3
  try clear hcz5_4
  try clear hcz5_5
  try clear hcz8_0
  try clear hcz8_1
  try clear hcz8_2
  try clear hcz8_3
  try clear hcz8_4
  try clear hcz8_5
  try clear hfz13_0
  try clear hfz13_1
  try clear hfz13_2
  try clear hfz13_3
  try clear hfz13_4
  try clear hfz13_5
  try clear hfz15_0
  try clear hfz15_1
  try clear hfz15_2
  try clear hfz15_3
  try clear hfz15_4
  try clear hfz15_5
  try clear hfz16_0
  try clear hfz16_1
  try clear hfz16_2
  try clear hfz16_3
  try clear hfz16_4
  try clear hfz16_5
  try clear hfz18_0
  try clear hfz18_1
  try clear hfz18_2
  try clear hfz18_3
  try clear hfz18_4
  try clear hfz18_5
  try clear hfz5_0
  try clear hfz5_1
  try clear hfz5_2
  try clear hfz5_3
  try clear hfz5_4
  try clear hfz5_5
  try clear hfz8_0
  try clear hfz8_1
  try clear hfz8_2
  try clear hfz8_3
  try clear hfz8_4
  try clear hfz8_5
  obtain ⟨kq,x15_2,rfl,HA,HJ2,BK115,HB⟩:=hcut
  cases kq with
  | zero=>exact absurd HA.out (by simp [Y5.j0])
  | succ kj2 =>
   have H:=HA.out
   clear HA
   simp only [Y5.j0] at H
   by_cases c19:x15_2=true
   ·subst c19
    have H1:(some false)=some r:=by rw [if_pos rfl] at H;exact H
    clear H
    have H:=H1
    clear H1
    obtain rfl:=Option.some.inj H
    go_wp2
    go_ret
    exact ⟨by first | rfl | (simp [errW_none,errW_some] <;> rfl) | (simp [*,errW_none,errW_some] <;> rfl),by repeat (first | (with_reducible first | exact HB.out | apply below_alloc | apply pw_below_drewN | apply below_drew1 | refine below_set ?_ GE115.out) | exact HB.out)⟩
   ·replace c19:=Bool.eq_false_iff.mpr c19
    subst c19
    have H1:(if t116=true then (if t117=true then (Y5.j1 kj2 t118 t119 false a0_0 a0_1 a0_2 a0_3 a0_4 a0_5) else (Y5.j1 kj2 t118 t119 (a0_2 != 0) a0_0 a0_1 a0_2 a0_3 a0_4 a0_5)) else (if a0_1=0 then (if t117=true then (Y5.j1 kj2 t118 t119 false a0_0 a0_1 a0_2 a0_3 a0_4 a0_5) else (Y5.j1 kj2 t118 t119 (a0_2 != 0) a0_0 a0_1 a0_2 a0_3 a0_4 a0_5)) else (Y5.j1 kj2 t118 t119 true a0_0 a0_1 a0_2 a0_3 a0_4 a0_5)))=some r:=by rw [if_neg (show ¬ (false=true) by decide)] at H;exact H
    clear H
    have H:=H1
    clear H1
    have HC20:=Aside0.mk H
    clear H
    go_upto_region 4 with (fail)
    go_cut [32] (fun v32 wc=>∃ (kq:Nat) (x32_19:Bool),v32 = .bool x32_19∧Aside0 (Y5.j1 kq t118 t119 x32_19 a0_0 a0_1 a0_2 a0_3 a0_4 a0_5=some r)∧Aside0 (kq≤kj2)∧Aside0 (wc.heap[gb115]? = some (.cells #[.int .i64 a0_0,.int .i64 a0_1,.int .i64 a0_2,.string a0_3,.string a0_4,.int .i64 a0_5] 23 (0,0)))∧Aside0 (Below w.heap.size w wc))
    case first =>
     have H:=HC20.out
     clear HC20
     by_cases c21:t116=true
     ·subst c21
      have H1:(if t117=true then (Y5.j1 kj2 t118 t119 false a0_0 a0_1 a0_2 a0_3 a0_4 a0_5) else (Y5.j1 kj2 t118 t119 (a0_2 != 0) a0_0 a0_1 a0_2 a0_3 a0_4 a0_5))=some r:=by rw [if_pos rfl] at H;exact H
      clear H
      have H:=H1
      clear H1
      by_cases c22:t117=true
      ·subst c22
       have H1:(Y5.j1 kj2 t118 t119 false a0_0 a0_1 a0_2 a0_3 a0_4 a0_5)=some r:=by rw [if_pos rfl] at H;exact H
       clear H
       have H:=H1
       clear H1
       have H':=Aside0.mk H
       clear H
       go_wp2
       go_meet
       case rel=>exact ⟨_,(false),(by first | rfl | (simp;done) | (simp [*];done) | (simp [bne];done)),H',⟨by have:=HJ2.out;first | omega | exact Nat.le_refl _⟩,⟨by (with_reducible repeat (first | refine blk_drewN ?_ _ | refine blk_drew ?_ | refine blk_alloc ?_ _));exact BK115.out⟩,⟨by repeat (first | (with_reducible first | exact HB.out | apply below_alloc | apply pw_below_drewN | apply below_drew1 | refine below_set ?_ GE115.out) | exact HB.out)⟩⟩
      ·replace c22:=Bool.eq_false_iff.mpr c22
       subst c22
       have H1:(Y5.j1 kj2 t118 t119 (a0_2 != 0) a0_0 a0_1 a0_2 a0_3 a0_4 a0_5)=some r:=by rw [if_neg (show ¬ (false=true) by decide)] at H;exact H
       clear H
       have H:=H1
       clear H1
       have H':=Aside0.mk H
       clear H
       have hcz23_0:wc.cell? ⟨gb115,0,none⟩=some (.int .i64 a0_0):=(blk_cell BK115.out 0).trans rfl
       have hcz23_1:wc.cell? ⟨gb115,1,none⟩=some (.int .i64 a0_1):=(blk_cell BK115.out 1).trans rfl
       have hcz23_2:wc.cell? ⟨gb115,2,none⟩=some (.int .i64 a0_2):=(blk_cell BK115.out 2).trans rfl
       have hcz23_3:wc.cell? ⟨gb115,3,none⟩=some (.string a0_3):=(blk_cell BK115.out 3).trans rfl
       have hcz23_4:wc.cell? ⟨gb115,4,none⟩=some (.string a0_4):=(blk_cell BK115.out 4).trans rfl
       have hcz23_5:wc.cell? ⟨gb115,5,none⟩=some (.int .i64 a0_5):=(blk_cell BK115.out 5).trans rfl
       have hfz23_0:=blk_frozen BK115.out 0
       have hfz23_1:=blk_frozen BK115.out 1
       have hfz23_2:=blk_frozen BK115.out 2
       have hfz23_3:=blk_frozen BK115.out 3
       have hfz23_4:=blk_frozen BK115.out 4
       have hfz23_5:=blk_frozen BK115.out 5
       go_wp2
       go_meet
       case rel=>exact ⟨_,((a0_2 != 0)),(by first | rfl | (simp;done) | (simp [*];done) | (simp [bne];done)),H',⟨by have:=HJ2.out;first | omega | exact Nat.le_refl _⟩,⟨by (with_reducible repeat (first | refine blk_drewN ?_ _ | refine blk_drew ?_ | refine blk_alloc ?_ _));exact BK115.out⟩,⟨by repeat (first | (with_reducible first | exact HB.out | apply below_alloc | apply pw_below_drewN | apply below_drew1 | refine below_set ?_ GE115.out) | exact HB.out)⟩⟩
     ·replace c21:=Bool.eq_false_iff.mpr c21
      subst c21
      have H1:(if a0_1=0 then (if t117=true then (Y5.j1 kj2 t118 t119 false a0_0 a0_1 a0_2 a0_3 a0_4 a0_5) else (Y5.j1 kj2 t118 t119 (a0_2 != 0) a0_0 a0_1 a0_2 a0_3 a0_4 a0_5)) else (Y5.j1 kj2 t118 t119 true a0_0 a0_1 a0_2 a0_3 a0_4 a0_5))=some r:=by rw [if_neg (show ¬ (false=true) by decide)] at H;exact H
      clear H
      have H:=H1
      clear H1
      by_cases c24:a0_1=0
      ·rw [if_pos c24] at H
       have c24b0:(a0_1 == 0)=true:=beq_iff_eq.mpr c24
       have c24b1:(a0_1 != 0)=false:=bne_eq_false_iff_eq.mpr c24
       clear c24
       (first | rw [c24b0] | (simp only [i64_w,i32_w];rw [c24b0]) | skip)
       by_cases c25:t117=true
       ·subst c25
        have H1:(Y5.j1 kj2 t118 t119 false a0_0 a0_1 a0_2 a0_3 a0_4 a0_5)=some r:=by rw [if_pos rfl] at H;exact H
        clear H
        have H:=H1
        clear H1
        have H':=Aside0.mk H
        clear H
        have hcz26_0:wc.cell? ⟨gb115,0,none⟩=some (.int .i64 a0_0):=(blk_cell BK115.out 0).trans rfl
        have hcz26_1:wc.cell? ⟨gb115,1,none⟩=some (.int .i64 a0_1):=(blk_cell BK115.out 1).trans rfl
        have hcz26_2:wc.cell? ⟨gb115,2,none⟩=some (.int .i64 a0_2):=(blk_cell BK115.out 2).trans rfl
        have hcz26_3:wc.cell? ⟨gb115,3,none⟩=some (.string a0_3):=(blk_cell BK115.out 3).trans rfl
        have hcz26_4:wc.cell? ⟨gb115,4,none⟩=some (.string a0_4):=(blk_cell BK115.out 4).trans rfl
        have hcz26_5:wc.cell? ⟨gb115,5,none⟩=some (.int .i64 a0_5):=(blk_cell BK115.out 5).trans rfl
        have hfz26_0:=blk_frozen BK115.out 0
        have hfz26_1:=blk_frozen BK115.out 1
        have hfz26_2:=blk_frozen BK115.out 2
        have hfz26_3:=blk_frozen BK115.out 3
        have hfz26_4:=blk_frozen BK115.out 4
        have hfz26_5:=blk_frozen BK115.out 5
        go_wp2
        go_meet
        case rel=>exact ⟨_,(false),(by first | rfl | (simp;done) | (simp [*];done) | (simp [bne];done)),H',⟨by have:=HJ2.out;first | omega | exact Nat.le_refl _⟩,⟨by (with_reducible repeat (first | refine blk_drewN ?_ _ | refine blk_drew ?_ | refine blk_alloc ?_ _));exact BK115.out⟩,⟨by repeat (first | (with_reducible first | exact HB.out | apply below_alloc | apply pw_below_drewN | apply below_drew1 | refine below_set ?_ GE115.out) | exact HB.out)⟩⟩
       ·replace c25:=Bool.eq_false_iff.mpr c25
        subst c25
        have H1:(Y5.j1 kj2 t118 t119 (a0_2 != 0) a0_0 a0_1 a0_2 a0_3 a0_4 a0_5)=some r:=by rw [if_neg (show ¬ (false=true) by decide)] at H;exact H
        clear H
        have H:=H1
        clear H1
        have H':=Aside0.mk H
        clear H
        have hcz27_0:wc.cell? ⟨gb115,0,none⟩=some (.int .i64 a0_0):=(blk_cell BK115.out 0).trans rfl
        have hcz27_1:wc.cell? ⟨gb115,1,none⟩=some (.int .i64 a0_1):=(blk_cell BK115.out 1).trans rfl
        have hcz27_2:wc.cell? ⟨gb115,2,none⟩=some (.int .i64 a0_2):=(blk_cell BK115.out 2).trans rfl
        have hcz27_3:wc.cell? ⟨gb115,3,none⟩=some (.string a0_3):=(blk_cell BK115.out 3).trans rfl
        have hcz27_4:wc.cell? ⟨gb115,4,none⟩=some (.string a0_4):=(blk_cell BK115.out 4).trans rfl
        have hcz27_5:wc.cell? ⟨gb115,5,none⟩=some (.int .i64 a0_5):=(blk_cell BK115.out 5).trans rfl
        have hfz27_0:=blk_frozen BK115.out 0
        have hfz27_1:=blk_frozen BK115.out 1
        have hfz27_2:=blk_frozen BK115.out 2
        have hfz27_3:=blk_frozen BK115.out 3
        have hfz27_4:=blk_frozen BK115.out 4
        have hfz27_5:=blk_frozen BK115.out 5
        go_wp2
        go_meet
        case rel=>exact ⟨_,((a0_2 != 0)),(by first | rfl | (simp;done) | (simp [*];done) | (simp [bne];done)),H',⟨by have:=HJ2.out;first | omega | exact Nat.le_refl _⟩,⟨by (with_reducible repeat (first | refine blk_drewN ?_ _ | refine blk_drew ?_ | refine blk_alloc ?_ _));exact BK115.out⟩,⟨by repeat (first | (with_reducible first | exact HB.out | apply below_alloc | apply pw_below_drewN | apply below_drew1 | refine below_set ?_ GE115.out) | exact HB.out)⟩⟩
      ·rw [if_neg c24] at H
       have c24b0:(a0_1 == 0)=false:=beq_eq_false_iff_ne.mpr c24
       have c24b1:(a0_1 != 0)=true:=bne_iff_ne.mpr c24
       (first | rw [c24b0] | (simp only [i64_w,i32_w];rw [c24b0]) | skip)
       have H':=Aside0.mk H
       clear H
       have hcz28_0:wc.cell? ⟨gb115,0,none⟩=some (.int .i64 a0_0):=(blk_cell BK115.out 0).trans rfl
       have hcz28_1:wc.cell? ⟨gb115,1,none⟩=some (.int .i64 a0_1):=(blk_cell BK115.out 1).trans rfl
       have hcz28_2:wc.cell? ⟨gb115,2,none⟩=some (.int .i64 a0_2):=(blk_cell BK115.out 2).trans rfl
       have hcz28_3:wc.cell? ⟨gb115,3,none⟩=some (.string a0_3):=(blk_cell BK115.out 3).trans rfl
       have hcz28_4:wc.cell? ⟨gb115,4,none⟩=some (.string a0_4):=(blk_cell BK115.out 4).trans rfl
       have hcz28_5:wc.cell? ⟨gb115,5,none⟩=some (.int .i64 a0_5):=(blk_cell BK115.out 5).trans rfl
       have hfz28_0:=blk_frozen BK115.out 0
       have hfz28_1:=blk_frozen BK115.out 1
       have hfz28_2:=blk_frozen BK115.out 2
       have hfz28_3:=blk_frozen BK115.out 3
       have hfz28_4:=blk_frozen BK115.out 4
       have hfz28_5:=blk_frozen BK115.out 5
       go_wp2
       go_meet
       case rel=>exact ⟨_,(true),(by first | rfl | (simp;done) | (simp [*];done) | (simp [bne];done)),H',⟨by have:=HJ2.out;first | omega | exact Nat.le_refl _⟩,⟨by (with_reducible repeat (first | refine blk_drewN ?_ _ | refine blk_drew ?_ | refine blk_alloc ?_ _));exact BK115.out⟩,⟨by repeat (first | (with_reducible first | exact HB.out | apply below_alloc | apply pw_below_drewN | apply below_drew1 | refine below_set ?_ GE115.out) | exact HB.out)⟩⟩
    case rest =>
     clear HC20
     try clear c1
     try clear c2
     try clear p2
     try clear c7
     try clear c7b0
     try clear c7b1
     try clear c9
     try clear c10
     try clear c11
     try clear c15
     try clear c19
     try clear c21
     try clear c22
     try clear c24
     try clear c24b0
     try clear c24b1
     try clear c25
     try clear hcz13_0
     try clear hcz13_1
     try clear hcz13_2
     try clear hcz13_3
     try clear hcz13_4
     try clear hcz13_5
     try clear hcz15_0
     try clear hcz15_1
     try clear hcz15_2
     try clear hcz15_3
     try clear hcz15_4
     try clear hcz15_5
     try clear hcz16_0
     try clear hcz16_1
     try clear hcz16_2
     try clear hcz16_3
     try clear hcz16_4
     try clear hcz16_5
     try clear hcz18_0
     try clear hcz18_1
     try clear hcz18_2
     try clear hcz18_3
     try clear hcz18_4
     try clear hcz18_5
     try clear hcz23_0
     try clear hcz23_1
     try clear hcz23_2
     try clear hcz23_3
     try clear hcz23_4
     try clear hcz23_5
     try clear hcz26_0
     try clear hcz26_1
     try clear hcz26_2
     try clear hcz26_3
     try clear hcz26_4
     try clear hcz26_5
     try clear hcz27_0
     try clear hcz27_1
     try clear hcz27_2
     try clear hcz27_3
     try clear hcz27_4
     try clear hcz27_5
     try clear hcz28_0
     try clear hcz28_1
     try clear hcz28_2
     try clear hcz28_3
     try clear hcz28_4
     try clear hcz28_5
     try clear hcz5_0
     try clear hcz5_1
     try clear hcz5_2
     try clear hcz5_3
     try clear hcz5_4
     try clear hcz5_5
     try clear hcz8_0
     try clear hcz8_1
     try clear hcz8_2
     try clear hcz8_3
     try clear hcz8_4
     try clear hcz8_5
     try clear hfz13_0
     try clear hfz13_1
     try clear hfz13_2
     try clear hfz13_3
     try clear hfz13_4
     try clear hfz13_5
     try clear hfz15_0
     try clear hfz15_1
     try clear hfz15_2
     try clear hfz15_3
     try clear hfz15_4
     try clear hfz15_5
     try clear hfz16_0
     try clear hfz16_1
     try clear hfz16_2
     try clear hfz16_3
     try clear hfz16_4
     try clear hfz16_5
     try clear hfz18_0
     try clear hfz18_1
     try clear hfz18_2
     try clear hfz18_3
     try clear hfz18_4
     try clear hfz18_5
     try clear hfz23_0
     try clear hfz23_1
     try clear hfz23_2
     try clear hfz23_3
     try clear hfz23_4
     try clear hfz23_5
     try clear hfz26_0
     try clear hfz26_1
     try clear hfz26_2
     try clear hfz26_3
     try clear hfz26_4
     try clear hfz26_5
     try clear hfz27_0
     try clear hfz27_1
     try clear hfz27_2
     try clear hfz27_3
     try clear hfz27_4
     try clear hfz27_5
     try clear hfz28_0
     try clear hfz28_1
     try clear hfz28_2
     try clear hfz28_3
     try clear hfz28_4
     try clear hfz28_5
     try clear hfz5_0
     try clear hfz5_1
     try clear hfz5_2
     try clear hfz5_3
     try clear hfz5_4
     try clear hfz5_5
     try clear hfz8_0
     try clear hfz8_1
     try clear hfz8_2
     try clear hfz8_3
     try clear hfz8_4
     try clear hfz8_5
     try clear p2
     obtain ⟨kq,x32_19,rfl,HA,HJ19,BK115,HB⟩:=hcut
     cases kq with
     | zero=>exact absurd HA.out (by simp [Y5.j1])
     | succ kj19 =>
      have H:=HA.out
      clear HA
      simp only [Y5.j1] at H
      by_cases c29:x32_19=true
      ·subst c29
       have H1:(some false)=some r:=by rw [if_pos rfl] at H;exact H
       clear H
       have H:=H1
       clear H1
       obtain rfl:=Option.some.inj H
       go_wp2
       go_ret
       exact ⟨by first | rfl | (simp [errW_none,errW_some] <;> rfl) | (simp [*,errW_none,errW_some] <;> rfl),by repeat (first | (with_reducible first | exact HB.out | apply below_alloc | apply pw_below_drewN | apply below_drew1 | refine below_set ?_ GE115.out) | exact HB.out)⟩
      ·replace c29:=Bool.eq_false_iff.mpr c29
       subst c29
       have H1:((Y11.f kj19 a0_3).bind fun t123=>(if (t118 != t123)=true then (Y5.j2 kj19 t119 true a0_0 a0_1 a0_2 a0_3 a0_4 a0_5) else (if t118=true then (Y5.j2 kj19 t119 false a0_0 a0_1 a0_2 a0_3 a0_4 a0_5) else (Y5.j2 kj19 t119 (a0_3.toList != ([]:List UInt8)) a0_0 a0_1 a0_2 a0_3 a0_4 a0_5))))=some r:=by rw [if_neg (show ¬ (false=true) by decide)] at H;exact H
       clear H
       have H:=H1
       clear H1
       have HC30:=Aside0.mk H
       clear H
       go_upto_region 6 with (fail)
       go_cut [49] (fun v49 wc=>∃ (kq:Nat) (x49_29:Bool),v49 = .bool x49_29∧Aside0 (Y5.j2 kq t119 x49_29 a0_0 a0_1 a0_2 a0_3 a0_4 a0_5=some r)∧Aside0 (kq≤kj19)∧Aside0 (wc.heap[gb115]? = some (.cells #[.int .i64 a0_0,.int .i64 a0_1,.int .i64 a0_2,.string a0_3,.string a0_4,.int .i64 a0_5] 23 (0,0)))∧Aside0 (Below w.heap.size w wc))
       case first =>
        have H:=HC30.out
        clear HC30
        replace H:=Option.bind_eq_some_iff.mp H
        obtain ⟨t123,A310,H⟩:=H
        replace H:(if (t118 != t123)=true then (Y5.j2 kj19 t119 true a0_0 a0_1 a0_2 a0_3 a0_4 a0_5) else (if t118=true then (Y5.j2 kj19 t119 false a0_0 a0_1 a0_2 a0_3 a0_4 a0_5) else (Y5.j2 kj19 t119 (a0_3.toList != ([]:List UInt8)) a0_0 a0_1 a0_2 a0_3 a0_4 a0_5)))=some r:=H
        have A31:=Aside0.mk A310
        clear A310
        by_cases c32:(t118 != t123)=true
        ·rw [if_pos c32] at H
         have c32b0:(t118 != t123)=true:=c32
         (try (have c32b1:decide (t118=t123)=false:=by simpa using c32))
         (try (have c32b2:(t118 == t123)=false:=by simpa using c32))
         (try (have c32b3:¬ (t118=t123):=by simpa using c32))
         clear c32
         (first | rw [c32b0] | (simp only [i64_w,i32_w];rw [c32b0]) | skip)
         have H':=Aside0.mk H
         clear H
         have hcz33_0:wc.cell? ⟨gb115,0,none⟩=some (.int .i64 a0_0):=(blk_cell BK115.out 0).trans rfl
         have hcz33_1:wc.cell? ⟨gb115,1,none⟩=some (.int .i64 a0_1):=(blk_cell BK115.out 1).trans rfl
         have hcz33_2:wc.cell? ⟨gb115,2,none⟩=some (.int .i64 a0_2):=(blk_cell BK115.out 2).trans rfl
         have hcz33_3:wc.cell? ⟨gb115,3,none⟩=some (.string a0_3):=(blk_cell BK115.out 3).trans rfl
         have hcz33_4:wc.cell? ⟨gb115,4,none⟩=some (.string a0_4):=(blk_cell BK115.out 4).trans rfl
         have hcz33_5:wc.cell? ⟨gb115,5,none⟩=some (.int .i64 a0_5):=(blk_cell BK115.out 5).trans rfl
         have hfz33_0:=blk_frozen BK115.out 0
         have hfz33_1:=blk_frozen BK115.out 1
         have hfz33_2:=blk_frozen BK115.out 2
         have hfz33_3:=blk_frozen BK115.out 3
         have hfz33_4:=blk_frozen BK115.out 4
         have hfz33_5:=blk_frozen BK115.out 5
         go_wp2_with (first | ((with_reducible refine gate_callee (f:=28) rfl ?_);refine goesL_ (some 53) rfl rfl Tryd.func28 (by kernel_rfl) rfl #[.string a0_3] rfl (by (try simp only [List.map_toArray,List.map_cons,List.map_nil]);first | done | rfl | (simp only [List.length_drop,List.length_take];rfl)) ?_;(with_reducible refine (Y11.calls kj19 a0_3 t123 _ A31.out).mono ?_);rintro e w' ⟨rfl,⟨nd,rfl⟩⟩;refine ⟨_,rfl,?_⟩))
         go_meet
         case rel=>exact ⟨_,(true),(by first | rfl | (simp;done) | (simp [*];done) | (simp [bne];done)),H',⟨by have:=HJ2.out;have:=HJ19.out;first | omega | exact Nat.le_refl _⟩,⟨by (with_reducible repeat (first | refine blk_drewN ?_ _ | refine blk_drew ?_ | refine blk_alloc ?_ _));exact BK115.out⟩,⟨by repeat (first | (with_reducible first | exact HB.out | apply below_alloc | apply pw_below_drewN | apply below_drew1 | refine below_set ?_ GE115.out) | exact HB.out)⟩⟩
        ·rw [if_neg c32] at H
         have c32b0:(t118 != t123)=false:=by simpa using c32
         (try (have c32b1:decide (t118=t123)=true:=by simpa using c32))
         (try (have c32b2:(t118 == t123)=true:=by simpa using c32))
         clear c32
         (first | rw [c32b0] | (simp only [i64_w,i32_w];rw [c32b0]) | skip)
         by_cases c34:t118=true
         ·subst c34
          have H1:(Y5.j2 kj19 t119 false a0_0 a0_1 a0_2 a0_3 a0_4 a0_5)=some r:=by rw [if_pos rfl] at H;exact H
          clear H
          have H:=H1
          clear H1
          have H':=Aside0.mk H
          clear H
          have hcz35_0:wc.cell? ⟨gb115,0,none⟩=some (.int .i64 a0_0):=(blk_cell BK115.out 0).trans rfl
          have hcz35_1:wc.cell? ⟨gb115,1,none⟩=some (.int .i64 a0_1):=(blk_cell BK115.out 1).trans rfl
          have hcz35_2:wc.cell? ⟨gb115,2,none⟩=some (.int .i64 a0_2):=(blk_cell BK115.out 2).trans rfl
          have hcz35_3:wc.cell? ⟨gb115,3,none⟩=some (.string a0_3):=(blk_cell BK115.out 3).trans rfl
          have hcz35_4:wc.cell? ⟨gb115,4,none⟩=some (.string a0_4):=(blk_cell BK115.out 4).trans rfl
          have hcz35_5:wc.cell? ⟨gb115,5,none⟩=some (.int .i64 a0_5):=(blk_cell BK115.out 5).trans rfl
          have hfz35_0:=blk_frozen BK115.out 0
          have hfz35_1:=blk_frozen BK115.out 1
          have hfz35_2:=blk_frozen BK115.out 2
          have hfz35_3:=blk_frozen BK115.out 3
          have hfz35_4:=blk_frozen BK115.out 4
          have hfz35_5:=blk_frozen BK115.out 5
          go_wp2_with (first | ((with_reducible refine gate_callee (f:=28) rfl ?_);refine goesL_ (some 53) rfl rfl Tryd.func28 (by kernel_rfl) rfl #[.string a0_3] rfl (by (try simp only [List.map_toArray,List.map_cons,List.map_nil]);first | done | rfl | (simp only [List.length_drop,List.length_take];rfl)) ?_;(with_reducible refine (Y11.calls kj19 a0_3 t123 _ A31.out).mono ?_);rintro e w' ⟨rfl,⟨nd,rfl⟩⟩;refine ⟨_,rfl,?_⟩))
          go_meet
          case rel=>exact ⟨_,(false),(by first | rfl | (simp;done) | (simp [*];done) | (simp [bne];done)),H',⟨by have:=HJ2.out;have:=HJ19.out;first | omega | exact Nat.le_refl _⟩,⟨by (with_reducible repeat (first | refine blk_drewN ?_ _ | refine blk_drew ?_ | refine blk_alloc ?_ _));exact BK115.out⟩,⟨by repeat (first | (with_reducible first | exact HB.out | apply below_alloc | apply pw_below_drewN | apply below_drew1 | refine below_set ?_ GE115.out) | exact HB.out)⟩⟩
         ·replace c34:=Bool.eq_false_iff.mpr c34
          subst c34
          have H1:(Y5.j2 kj19 t119 (a0_3.toList != ([]:List UInt8)) a0_0 a0_1 a0_2 a0_3 a0_4 a0_5)=some r:=by rw [if_neg (show ¬ (false=true) by decide)] at H;exact H
          clear H
          have H:=H1
          clear H1
          have H':=Aside0.mk H
          clear H
          have hcz36_0:wc.cell? ⟨gb115,0,none⟩=some (.int .i64 a0_0):=(blk_cell BK115.out 0).trans rfl
          have hcz36_1:wc.cell? ⟨gb115,1,none⟩=some (.int .i64 a0_1):=(blk_cell BK115.out 1).trans rfl
          have hcz36_2:wc.cell? ⟨gb115,2,none⟩=some (.int .i64 a0_2):=(blk_cell BK115.out 2).trans rfl
          have hcz36_3:wc.cell? ⟨gb115,3,none⟩=some (.string a0_3):=(blk_cell BK115.out 3).trans rfl
          have hcz36_4:wc.cell? ⟨gb115,4,none⟩=some (.string a0_4):=(blk_cell BK115.out 4).trans rfl
          have hcz36_5:wc.cell? ⟨gb115,5,none⟩=some (.int .i64 a0_5):=(blk_cell BK115.out 5).trans rfl
          have hfz36_0:=blk_frozen BK115.out 0
          have hfz36_1:=blk_frozen BK115.out 1
          have hfz36_2:=blk_frozen BK115.out 2
          have hfz36_3:=blk_frozen BK115.out 3
          have hfz36_4:=blk_frozen BK115.out 4
          have hfz36_5:=blk_frozen BK115.out 5
          go_wp2_with (first | ((with_reducible refine gate_callee (f:=28) rfl ?_);refine goesL_ (some 53) rfl rfl Tryd.func28 (by kernel_rfl) rfl #[.string a0_3] rfl (by (try simp only [List.map_toArray,List.map_cons,List.map_nil]);first | done | rfl | (simp only [List.length_drop,List.length_take];rfl)) ?_;(with_reducible refine (Y11.calls kj19 a0_3 t123 _ A31.out).mono ?_);rintro e w' ⟨rfl,⟨nd,rfl⟩⟩;refine ⟨_,rfl,?_⟩))
          go_meet
          case rel=>exact ⟨_,((a0_3.toList != ([]:List UInt8))),(by first | rfl | (simp;done) | (simp [*];done) | (simp [bne];done)),H',⟨by have:=HJ2.out;have:=HJ19.out;first | omega | exact Nat.le_refl _⟩,⟨by (with_reducible repeat (first | refine blk_drewN ?_ _ | refine blk_drew ?_ | refine blk_alloc ?_ _));exact BK115.out⟩,⟨by repeat (first | (with_reducible first | exact HB.out | apply below_alloc | apply pw_below_drewN | apply below_drew1 | refine below_set ?_ GE115.out) | exact HB.out)⟩⟩
       case rest =>
        clear HC30
        try clear c1
        try clear c2
        try clear p2
        try clear c3
        try clear c7
        try clear c7b0
        try clear c7b1
        try clear c9
        try clear c10
        try clear c11
        try clear c15
        try clear c19
        try clear c21
        try clear c22
        try clear c24
        try clear c24b0
        try clear c24b1
        try clear c25
        try clear c28
        try clear c29
        try clear c32
        try clear c32b0
        try clear c32b1
        try clear c32b2
        try clear c34
        try clear hcz13_0
        try clear hcz13_1
        try clear hcz13_2
        try clear hcz13_3
        try clear hcz13_4
        try clear hcz13_5
        try clear hcz15_0
        try clear hcz15_1
        try clear hcz15_2
        try clear hcz15_3
        try clear hcz15_4
        try clear hcz15_5
        try clear hcz16_0
        try clear hcz16_1
        try clear hcz16_2
        try clear hcz16_3
        try clear hcz16_4
        try clear hcz16_5
        try clear hcz18_0
        try clear hcz18_1
        try clear hcz18_2
        try clear hcz18_3
        try clear hcz18_4
        try clear hcz18_5
        try clear hcz23_0
        try clear hcz23_1
        try clear hcz23_2
        try clear hcz23_3
        try clear hcz23_4
        try clear hcz23_5
        try clear hcz26_0
        try clear hcz26_1
        try clear hcz26_2
        try clear hcz26_3
        try clear hcz26_4
        try clear hcz26_5
        try clear hcz27_0
        try clear hcz27_1
        try clear hcz27_2
        try clear hcz27_3
        try clear hcz27_4
        try clear hcz27_5
        try clear hcz28_0
        try clear hcz28_1
        try clear hcz28_2
        try clear hcz28_3
        try clear hcz28_4
        try clear hcz28_5
        try clear hcz33_0
        try clear hcz33_1
        try clear hcz33_2
        try clear hcz33_3
        try clear hcz33_4
        try clear hcz33_5
        try clear hcz35_0
        try clear hcz35_1
        try clear hcz35_2
        try clear hcz35_3
        try clear hcz35_4
        try clear hcz35_5
        try clear hcz36_0
        try clear hcz36_1
        try clear hcz36_2
        try clear hcz36_3
        try clear hcz36_4
        try clear hcz36_5
        try clear hcz5_0
        try clear hcz5_1
        try clear hcz5_2
        try clear hcz5_3
        try clear hcz5_4
        try clear hcz5_5
        try clear hcz8_0
        try clear hcz8_1
        try clear hcz8_2
        try clear hcz8_3
        try clear hcz8_4
        try clear hcz8_5
        try clear hfz13_0
        try clear hfz13_1
        try clear hfz13_2
        try clear hfz13_3
        try clear hfz13_4
        try clear hfz13_5
        try clear hfz15_0
        try clear hfz15_1
        try clear hfz15_2
        try clear hfz15_3
        try clear hfz15_4
        try clear hfz15_5
        try clear hfz16_0
        try clear hfz16_1
        try clear hfz16_2
        try clear hfz16_3
        try clear hfz16_4
        try clear hfz16_5
        try clear hfz18_0
        try clear hfz18_1
        try clear hfz18_2
        try clear hfz18_3
        try clear hfz18_4
        try clear hfz18_5
        try clear hfz23_0
        try clear hfz23_1
        try clear hfz23_2
        try clear hfz23_3
        try clear hfz23_4
        try clear hfz23_5
        try clear hfz26_0
        try clear hfz26_1
        try clear hfz26_2
        try clear hfz26_3
        try clear hfz26_4
        try clear hfz26_5
        try clear hfz27_0
        try clear hfz27_1
        try clear hfz27_2
        try clear hfz27_3
        try clear hfz27_4
        try clear hfz27_5
        try clear hfz28_0
        try clear hfz28_1
        try clear hfz28_2
        try clear hfz28_3
        try clear hfz28_4
        try clear hfz28_5
        try clear hfz33_0
        try clear hfz33_1
        try clear hfz33_2
        try clear hfz33_3
        try clear hfz33_4
        try clear hfz33_5
        try clear hfz35_0
        try clear hfz35_1
        try clear hfz35_2
        try clear hfz35_3
        try clear hfz35_4
        try clear hfz35_5
        try clear hfz36_0
        try clear hfz36_1
        try clear hfz36_2
        try clear hfz36_3
        try clear hfz36_4
        try clear hfz36_5
        try clear hfz5_0
        try clear hfz5_1
        try clear hfz5_2
        try clear hfz5_3
        try clear hfz5_4
        try clear hfz5_5
        try clear hfz8_0
        try clear hfz8_1
        try clear hfz8_2
        try clear hfz8_3
        try clear hfz8_4
        try clear hfz8_5
        try clear p2
        obtain ⟨kq,x49_29,rfl,HA,HJ29,BK115,HB⟩:=hcut
        cases kq with
        | zero=>exact absurd HA.out (by simp [Y5.j2])
        | succ kj29 =>
         have H:=HA.out
         clear HA
         simp only [Y5.j2] at H
         by_cases c37:x49_29=true
         ·subst c37
          have H1:(some false)=some r:=by rw [if_pos rfl] at H;exact H
          clear H
          have H:=H1
          clear H1
          obtain rfl:=Option.some.inj H
          go_wp2
          go_ret
          exact ⟨by first | rfl | (simp [errW_none,errW_some] <;> rfl) | (simp [*,errW_none,errW_some] <;> rfl),by repeat (first | (with_reducible first | exact HB.out | apply below_alloc | apply pw_below_drewN | apply below_drew1 | refine below_set ?_ GE115.out) | exact HB.out)⟩
         ·replace c37:=Bool.eq_false_iff.mpr c37
          subst c37
          have H1:((Y11.f kj29 a0_4).bind fun t124=>(if (t119 != t124)=true then (Y5.j3 kj29 true a0_0 a0_1 a0_2 a0_3 a0_4 a0_5) else (if t119=true then (Y5.j3 kj29 (decide ((a0_4.size:Int)>16)) a0_0 a0_1 a0_2 a0_3 a0_4 a0_5) else (if a0_4.toList=([]:List UInt8) then (Y5.j3 kj29 (decide ((a0_4.size:Int)>16)) a0_0 a0_1 a0_2 a0_3 a0_4 a0_5) else (Y5.j3 kj29 true a0_0 a0_1 a0_2 a0_3 a0_4 a0_5)))))=some r:=by rw [if_neg (show ¬ (false=true) by decide)] at H;exact H
          clear H
          have H:=H1
          clear H1
          have HC38:=Aside0.mk H
          clear H
          go_upto_region 8 with (fail)
          go_cut [64] (fun v64 wc=>∃ (kq:Nat) (x64_37:Bool),v64 = .bool x64_37∧Aside0 (Y5.j3 kq x64_37 a0_0 a0_1 a0_2 a0_3 a0_4 a0_5=some r)∧Aside0 (kq≤kj29)∧Aside0 (wc.heap[gb115]? = some (.cells #[.int .i64 a0_0,.int .i64 a0_1,.int .i64 a0_2,.string a0_3,.string a0_4,.int .i64 a0_5] 23 (0,0)))∧Aside0 (Below w.heap.size w wc))
          case first =>
           have H:=HC38.out
           clear HC38
           replace H:=Option.bind_eq_some_iff.mp H
           obtain ⟨t124,A390,H⟩:=H
           replace H:(if (t119 != t124)=true then (Y5.j3 kj29 true a0_0 a0_1 a0_2 a0_3 a0_4 a0_5) else (if t119=true then (Y5.j3 kj29 (decide ((a0_4.size:Int)>16)) a0_0 a0_1 a0_2 a0_3 a0_4 a0_5) else (if a0_4.toList=([]:List UInt8) then (Y5.j3 kj29 (decide ((a0_4.size:Int)>16)) a0_0 a0_1 a0_2 a0_3 a0_4 a0_5) else (Y5.j3 kj29 true a0_0 a0_1 a0_2 a0_3 a0_4 a0_5))))=some r:=H
           have A39:=Aside0.mk A390
           clear A390
           by_cases c40:(t119 != t124)=true
           ·rw [if_pos c40] at H
            have c40b0:(t119 != t124)=true:=c40
            (try (have c40b1:decide (t119=t124)=false:=by simpa using c40))
            (try (have c40b2:(t119 == t124)=false:=by simpa using c40))
            (try (have c40b3:¬ (t119=t124):=by simpa using c40))
            clear c40
            (first | rw [c40b0] | (simp only [i64_w,i32_w];rw [c40b0]) | skip)
            have H':=Aside0.mk H
            clear H
            have hcz41_0:wc.cell? ⟨gb115,0,none⟩=some (.int .i64 a0_0):=(blk_cell BK115.out 0).trans rfl
            have hcz41_1:wc.cell? ⟨gb115,1,none⟩=some (.int .i64 a0_1):=(blk_cell BK115.out 1).trans rfl
            have hcz41_2:wc.cell? ⟨gb115,2,none⟩=some (.int .i64 a0_2):=(blk_cell BK115.out 2).trans rfl
            have hcz41_3:wc.cell? ⟨gb115,3,none⟩=some (.string a0_3):=(blk_cell BK115.out 3).trans rfl
            have hcz41_4:wc.cell? ⟨gb115,4,none⟩=some (.string a0_4):=(blk_cell BK115.out 4).trans rfl
            have hcz41_5:wc.cell? ⟨gb115,5,none⟩=some (.int .i64 a0_5):=(blk_cell BK115.out 5).trans rfl
            have hfz41_0:=blk_frozen BK115.out 0
            have hfz41_1:=blk_frozen BK115.out 1
            have hfz41_2:=blk_frozen BK115.out 2
            have hfz41_3:=blk_frozen BK115.out 3
            have hfz41_4:=blk_frozen BK115.out 4
            have hfz41_5:=blk_frozen BK115.out 5
            go_wp2_with (first | ((with_reducible refine gate_callee (f:=28) rfl ?_);refine goesL_ (some 68) rfl rfl Tryd.func28 (by kernel_rfl) rfl #[.string a0_4] rfl (by (try simp only [List.map_toArray,List.map_cons,List.map_nil]);first | done | rfl | (simp only [List.length_drop,List.length_take];rfl)) ?_;(with_reducible refine (Y11.calls kj29 a0_4 t124 _ A39.out).mono ?_);rintro e w' ⟨rfl,⟨nd,rfl⟩⟩;refine ⟨_,rfl,?_⟩))
            go_meet
            case rel=>exact ⟨_,(true),(by first | rfl | (simp;done) | (simp [*];done) | (simp [bne];done)),H',⟨by have:=HJ2.out;have:=HJ19.out;have:=HJ29.out;first | omega | exact Nat.le_refl _⟩,⟨by (with_reducible repeat (first | refine blk_drewN ?_ _ | refine blk_drew ?_ | refine blk_alloc ?_ _));exact BK115.out⟩,⟨by repeat (first | (with_reducible first | exact HB.out | apply below_alloc | apply pw_below_drewN | apply below_drew1 | refine below_set ?_ GE115.out) | exact HB.out)⟩⟩
           ·rw [if_neg c40] at H
            have c40b0:(t119 != t124)=false:=by simpa using c40
            (try (have c40b1:decide (t119=t124)=true:=by simpa using c40))
            (try (have c40b2:(t119 == t124)=true:=by simpa using c40))
            clear c40
            (first | rw [c40b0] | (simp only [i64_w,i32_w];rw [c40b0]) | skip)
            by_cases c42:t119=true
            ·subst c42
             have H1:(Y5.j3 kj29 (decide ((a0_4.size:Int)>16)) a0_0 a0_1 a0_2 a0_3 a0_4 a0_5)=some r:=by rw [if_pos rfl] at H;exact H
             clear H
             have H:=H1
             clear H1
             have H':=Aside0.mk H
             clear H
             have hcz43_0:wc.cell? ⟨gb115,0,none⟩=some (.int .i64 a0_0):=(blk_cell BK115.out 0).trans rfl
             have hcz43_1:wc.cell? ⟨gb115,1,none⟩=some (.int .i64 a0_1):=(blk_cell BK115.out 1).trans rfl
             have hcz43_2:wc.cell? ⟨gb115,2,none⟩=some (.int .i64 a0_2):=(blk_cell BK115.out 2).trans rfl
             have hcz43_3:wc.cell? ⟨gb115,3,none⟩=some (.string a0_3):=(blk_cell BK115.out 3).trans rfl
             have hcz43_4:wc.cell? ⟨gb115,4,none⟩=some (.string a0_4):=(blk_cell BK115.out 4).trans rfl
             have hcz43_5:wc.cell? ⟨gb115,5,none⟩=some (.int .i64 a0_5):=(blk_cell BK115.out 5).trans rfl
             have hfz43_0:=blk_frozen BK115.out 0
             have hfz43_1:=blk_frozen BK115.out 1
             have hfz43_2:=blk_frozen BK115.out 2
             have hfz43_3:=blk_frozen BK115.out 3
             have hfz43_4:=blk_frozen BK115.out 4
             have hfz43_5:=blk_frozen BK115.out 5
             go_wp2_with (first | ((with_reducible refine gate_callee (f:=28) rfl ?_);refine goesL_ (some 68) rfl rfl Tryd.func28 (by kernel_rfl) rfl #[.string a0_4] rfl (by (try simp only [List.map_toArray,List.map_cons,List.map_nil]);first | done | rfl | (simp only [List.length_drop,List.length_take];rfl)) ?_;(with_reducible refine (Y11.calls kj29 a0_4 t124 _ A39.out).mono ?_);rintro e w' ⟨rfl,⟨nd,rfl⟩⟩;refine ⟨_,rfl,?_⟩))
             go_meet
             case rel=>exact ⟨_,(decide ((a0_4.size:Int)>16)),(by first | rfl | (simp;done) | (simp [*];done) | (simp [bne];done)),H',⟨by have:=HJ2.out;have:=HJ19.out;have:=HJ29.out;first | omega | exact Nat.le_refl _⟩,⟨by (with_reducible repeat (first | refine blk_drewN ?_ _ | refine blk_drew ?_ | refine blk_alloc ?_ _));exact BK115.out⟩,⟨by repeat (first | (with_reducible first | exact HB.out | apply below_alloc | apply pw_below_drewN | apply below_drew1 | refine below_set ?_ GE115.out) | exact HB.out)⟩⟩
            ·replace c42:=Bool.eq_false_iff.mpr c42
             subst c42
             have H1:(if a0_4.toList=([]:List UInt8) then (Y5.j3 kj29 (decide ((a0_4.size:Int)>16)) a0_0 a0_1 a0_2 a0_3 a0_4 a0_5) else (Y5.j3 kj29 true a0_0 a0_1 a0_2 a0_3 a0_4 a0_5))=some r:=by rw [if_neg (show ¬ (false=true) by decide)] at H;exact H
             clear H
             have H:=H1
             clear H1
             by_cases c44:a0_4.toList=([]:List UInt8)
             ·rw [if_pos c44] at H
              have c44b0:(a0_4.toList == ([]:List UInt8))=true:=beq_iff_eq.mpr c44
              have c44b1:(a0_4.toList != ([]:List UInt8))=false:=bne_eq_false_iff_eq.mpr c44
              clear c44
              have H':=Aside0.mk H
              clear H
              have hcz45_0:wc.cell? ⟨gb115,0,none⟩=some (.int .i64 a0_0):=(blk_cell BK115.out 0).trans rfl
              have hcz45_1:wc.cell? ⟨gb115,1,none⟩=some (.int .i64 a0_1):=(blk_cell BK115.out 1).trans rfl
              have hcz45_2:wc.cell? ⟨gb115,2,none⟩=some (.int .i64 a0_2):=(blk_cell BK115.out 2).trans rfl
              have hcz45_3:wc.cell? ⟨gb115,3,none⟩=some (.string a0_3):=(blk_cell BK115.out 3).trans rfl
              have hcz45_4:wc.cell? ⟨gb115,4,none⟩=some (.string a0_4):=(blk_cell BK115.out 4).trans rfl
              have hcz45_5:wc.cell? ⟨gb115,5,none⟩=some (.int .i64 a0_5):=(blk_cell BK115.out 5).trans rfl
              have hfz45_0:=blk_frozen BK115.out 0
              have hfz45_1:=blk_frozen BK115.out 1
              have hfz45_2:=blk_frozen BK115.out 2
              have hfz45_3:=blk_frozen BK115.out 3
              have hfz45_4:=blk_frozen BK115.out 4
              have hfz45_5:=blk_frozen BK115.out 5
              go_wp2_with (first | ((with_reducible refine gate_callee (f:=28) rfl ?_);refine goesL_ (some 68) rfl rfl Tryd.func28 (by kernel_rfl) rfl #[.string a0_4] rfl (by (try simp only [List.map_toArray,List.map_cons,List.map_nil]);first | done | rfl | (simp only [List.length_drop,List.length_take];rfl)) ?_;(with_reducible refine (Y11.calls kj29 a0_4 t124 _ A39.out).mono ?_);rintro e w' ⟨rfl,⟨nd,rfl⟩⟩;refine ⟨_,rfl,?_⟩))
              go_meet
              case rel=>exact ⟨_,(decide ((a0_4.size:Int)>16)),(by first | rfl | (simp;done) | (simp [*];done) | (simp [bne];done)),H',⟨by have:=HJ2.out;have:=HJ19.out;have:=HJ29.out;first | omega | exact Nat.le_refl _⟩,⟨by (with_reducible repeat (first | refine blk_drewN ?_ _ | refine blk_drew ?_ | refine blk_alloc ?_ _));exact BK115.out⟩,⟨by repeat (first | (with_reducible first | exact HB.out | apply below_alloc | apply pw_below_drewN | apply below_drew1 | refine below_set ?_ GE115.out) | exact HB.out)⟩⟩
             ·rw [if_neg c44] at H
              have c44b0:(a0_4.toList == ([]:List UInt8))=false:=beq_eq_false_iff_ne.mpr c44
              have c44b1:(a0_4.toList != ([]:List UInt8))=true:=bne_iff_ne.mpr c44
              have H':=Aside0.mk H
              clear H
              have hcz46_0:wc.cell? ⟨gb115,0,none⟩=some (.int .i64 a0_0):=(blk_cell BK115.out 0).trans rfl
              have hcz46_1:wc.cell? ⟨gb115,1,none⟩=some (.int .i64 a0_1):=(blk_cell BK115.out 1).trans rfl
              have hcz46_2:wc.cell? ⟨gb115,2,none⟩=some (.int .i64 a0_2):=(blk_cell BK115.out 2).trans rfl
              have hcz46_3:wc.cell? ⟨gb115,3,none⟩=some (.string a0_3):=(blk_cell BK115.out 3).trans rfl
              have hcz46_4:wc.cell? ⟨gb115,4,none⟩=some (.string a0_4):=(blk_cell BK115.out 4).trans rfl
              have hcz46_5:wc.cell? ⟨gb115,5,none⟩=some (.int .i64 a0_5):=(blk_cell BK115.out 5).trans rfl
              have hfz46_0:=blk_frozen BK115.out 0
              have hfz46_1:=blk_frozen BK115.out 1
              have hfz46_2:=blk_frozen BK115.out 2
              have hfz46_3:=blk_frozen BK115.out 3
              have hfz46_4:=blk_frozen BK115.out 4
              have hfz46_5:=blk_frozen BK115.out 5
              go_wp2_with (first | ((with_reducible refine gate_callee (f:=28) rfl ?_);refine goesL_ (some 68) rfl rfl Tryd.func28 (by kernel_rfl) rfl #[.string a0_4] rfl (by (try simp only [List.map_toArray,List.map_cons,List.map_nil]);first | done | rfl | (simp only [List.length_drop,List.length_take];rfl)) ?_;(with_reducible refine (Y11.calls kj29 a0_4 t124 _ A39.out).mono ?_);rintro e w' ⟨rfl,⟨nd,rfl⟩⟩;refine ⟨_,rfl,?_⟩))
              go_meet
              case rel=>exact ⟨_,(true),(by first | rfl | (simp;done) | (simp [*];done) | (simp [bne];done)),H',⟨by have:=HJ2.out;have:=HJ19.out;have:=HJ29.out;first | omega | exact Nat.le_refl _⟩,⟨by (with_reducible repeat (first | refine blk_drewN ?_ _ | refine blk_drew ?_ | refine blk_alloc ?_ _));exact BK115.out⟩,⟨by repeat (first | (with_reducible first | exact HB.out | apply below_alloc | apply pw_below_drewN | apply below_drew1 | refine below_set ?_ GE115.out) | exact HB.out)⟩⟩
          case rest =>
           clear HC38
           try clear c1
           try clear c2
           try clear p2
           try clear c3
           try clear c4
           try clear c7
           try clear c7b0
           try clear c7b1
           try clear c9
           try clear c10
           try clear c11
           try clear c15
           try clear c19
           try clear c21
           try clear c22
           try clear c24
           try clear c24b0
           try clear c24b1
           try clear c25
           try clear c28
           try clear c29
           try clear c32
           try clear c32b0
           try clear c32b1
           try clear c32b2
           try clear c34
           try clear c37
           try clear c40
           try clear c40b0
           try clear c40b1
           try clear c40b2
           try clear c42
           try clear c44
           try clear c44b0
           try clear c44b1
           try clear hcz13_0
           try clear hcz13_1
           try clear hcz13_2
           try clear hcz13_3
           try clear hcz13_4
           try clear hcz13_5
           try clear hcz15_0
           try clear hcz15_1
           try clear hcz15_2
           try clear hcz15_3
           try clear hcz15_4
           try clear hcz15_5
           try clear hcz16_0
           try clear hcz16_1
           try clear hcz16_2
           try clear hcz16_3
           try clear hcz16_4
           try clear hcz16_5
           try clear hcz18_0
           try clear hcz18_1
           try clear hcz18_2
           try clear hcz18_3
           try clear hcz18_4
           try clear hcz18_5
           try clear hcz23_0
           try clear hcz23_1
           try clear hcz23_2
           try clear hcz23_3
           try clear hcz23_4
           try clear hcz23_5
           try clear hcz26_0
           try clear hcz26_1
           try clear hcz26_2
           try clear hcz26_3
           try clear hcz26_4
           try clear hcz26_5
           try clear hcz27_0
           try clear hcz27_1
           try clear hcz27_2
           try clear hcz27_3
           try clear hcz27_4
           try clear hcz27_5
           try clear hcz28_0
           try clear hcz28_1
           try clear hcz28_2
           try clear hcz28_3
           try clear hcz28_4
           try clear hcz28_5
           try clear hcz33_0
           try clear hcz33_1
           try clear hcz33_2
           try clear hcz33_3
           try clear hcz33_4
           try clear hcz33_5
           try clear hcz35_0
           try clear hcz35_1
           try clear hcz35_2
           try clear hcz35_3
           try clear hcz35_4
           try clear hcz35_5
           try clear hcz36_0
           try clear hcz36_1
           try clear hcz36_2
           try clear hcz36_3
           try clear hcz36_4
           try clear hcz36_5
           try clear hcz41_0
           try clear hcz41_1
           try clear hcz41_2
           try clear hcz41_3
           try clear hcz41_4
           try clear hcz41_5
           try clear hcz43_0
           try clear hcz43_1
           try clear hcz43_2
           try clear hcz43_3
           try clear hcz43_4
           try clear hcz43_5
           try clear hcz45_0
           try clear hcz45_1
           try clear hcz45_2
           try clear hcz45_3
           try clear hcz45_4
           try clear hcz45_5
           try clear hcz46_0
           try clear hcz46_1
           try clear hcz46_2
           try clear hcz46_3
           try clear hcz46_4
           try clear hcz46_5
           try clear hcz5_0
           try clear hcz5_1
           try clear hcz5_2
           try clear hcz5_3
           try clear hcz5_4
           try clear hcz5_5
           try clear hcz8_0
           try clear hcz8_1
           try clear hcz8_2
           try clear hcz8_3
           try clear hcz8_4
           try clear hcz8_5
           try clear hfz13_0
           try clear hfz13_1
           try clear hfz13_2
           try clear hfz13_3
           try clear hfz13_4
           try clear hfz13_5
           try clear hfz15_0
           try clear hfz15_1
           try clear hfz15_2
           try clear hfz15_3
           try clear hfz15_4
           try clear hfz15_5
           try clear hfz16_0
           try clear hfz16_1
           try clear hfz16_2
           try clear hfz16_3
           try clear hfz16_4
           try clear hfz16_5
           try clear hfz18_0
           try clear hfz18_1
           try clear hfz18_2
           try clear hfz18_3
           try clear hfz18_4
           try clear hfz18_5
           try clear hfz23_0
           try clear hfz23_1
           try clear hfz23_2
           try clear hfz23_3
           try clear hfz23_4
           try clear hfz23_5
           try clear hfz26_0
           try clear hfz26_1
           try clear hfz26_2
           try clear hfz26_3
           try clear hfz26_4
           try clear hfz26_5
           try clear hfz27_0
           try clear hfz27_1
           try clear hfz27_2
           try clear hfz27_3
           try clear hfz27_4
           try clear hfz27_5
           try clear hfz28_0
           try clear hfz28_1
           try clear hfz28_2
           try clear hfz28_3
           try clear hfz28_4
           try clear hfz28_5
           try clear hfz33_0
           try clear hfz33_1
           try clear hfz33_2
           try clear hfz33_3
           try clear hfz33_4
           try clear hfz33_5
           try clear hfz35_0
           try clear hfz35_1
           try clear hfz35_2
           try clear hfz35_3
           try clear hfz35_4
           try clear hfz35_5
           try clear hfz36_0
           try clear hfz36_1
           try clear hfz36_2
           try clear hfz36_3
           try clear hfz36_4
           try clear hfz36_5
           try clear hfz41_0
           try clear hfz41_1
           try clear hfz41_2
           try clear hfz41_3
           try clear hfz41_4
           try clear hfz41_5
           try clear hfz43_0
           try clear hfz43_1
           try clear hfz43_2
           try clear hfz43_3
           try clear hfz43_4
           try clear hfz43_5
           try clear hfz45_0
           try clear hfz45_1
           try clear hfz45_2
           try clear hfz45_3
           try clear hfz45_4
           try clear hfz45_5
           try clear hfz46_0
           try clear hfz46_1
           try clear hfz46_2
           try clear hfz46_3
           try clear hfz46_4
           try clear hfz46_5
           try clear hfz5_0
           try clear hfz5_1
           try clear hfz5_2
           try clear hfz5_3
           try clear hfz5_4
           try clear hfz5_5
           try clear hfz8_0
           try clear hfz8_1
           try clear hfz8_2
           try clear hfz8_3
           try clear hfz8_4
           try clear hfz8_5
           try clear p2
           obtain ⟨kq,x64_37,rfl,HA,HJ37,BK115,HB⟩:=hcut
           cases kq with
           | zero=>exact absurd HA.out (by simp [Y5.j3])
           | succ kj37 =>
            have H:=HA.out
            clear HA
            simp only [Y5.j3] at H
            by_cases c47:x64_37=true
            ·subst c47
             have H1:(some false)=some r:=by rw [if_pos rfl] at H;exact H
             clear H
             have H:=H1
             clear H1
             obtain rfl:=Option.some.inj H
             go_wp2
             go_ret
             exact ⟨by first | rfl | (simp [errW_none,errW_some] <;> rfl) | (simp [*,errW_none,errW_some] <;> rfl),by repeat (first | (with_reducible first | exact HB.out | apply below_alloc | apply pw_below_drewN | apply below_drew1 | refine below_set ?_ GE115.out) | exact HB.out)⟩
            ·replace c47:=Bool.eq_false_iff.mpr c47
             subst c47
             have H1:(if a0_5=(-1) then (some true) else ((Y36.f a0_0).bind fun t125=>(if t125=true then ((Y37.f a0_5).bind fun t126=>(some t126)) else (some false))))=some r:=by rw [if_neg (show ¬ (false=true) by decide)] at H;exact H
             clear H
             have H:=H1
             clear H1
             by_cases c48:a0_5=(-1)
             ·rw [if_pos c48] at H
              have c48b0:(a0_5 == (-1))=true:=beq_iff_eq.mpr c48
              have c48b1:(a0_5 != (-1))=false:=bne_eq_false_iff_eq.mpr c48
              clear c48
              obtain rfl:=Option.some.inj H
              have hcz49_0:wc.cell? ⟨gb115,0,none⟩=some (.int .i64 a0_0):=(blk_cell BK115.out 0).trans rfl
              have hcz49_1:wc.cell? ⟨gb115,1,none⟩=some (.int .i64 a0_1):=(blk_cell BK115.out 1).trans rfl
              have hcz49_2:wc.cell? ⟨gb115,2,none⟩=some (.int .i64 a0_2):=(blk_cell BK115.out 2).trans rfl
              have hcz49_3:wc.cell? ⟨gb115,3,none⟩=some (.string a0_3):=(blk_cell BK115.out 3).trans rfl
              have hcz49_4:wc.cell? ⟨gb115,4,none⟩=some (.string a0_4):=(blk_cell BK115.out 4).trans rfl
              have hcz49_5:wc.cell? ⟨gb115,5,none⟩=some (.int .i64 a0_5):=(blk_cell BK115.out 5).trans rfl
              have hfz49_0:=blk_frozen BK115.out 0
              have hfz49_1:=blk_frozen BK115.out 1
              have hfz49_2:=blk_frozen BK115.out 2
              have hfz49_3:=blk_frozen BK115.out 3
              have hfz49_4:=blk_frozen BK115.out 4
              have hfz49_5:=blk_frozen BK115.out 5
              go_wp2
              go_ret
              exact ⟨by first | rfl | (simp [errW_none,errW_some] <;> rfl) | (simp [*,errW_none,errW_some] <;> rfl),by repeat (first | (with_reducible first | exact HB.out | apply below_alloc | apply pw_below_drewN | apply below_drew1 | refine below_set ?_ GE115.out) | exact HB.out)⟩
             ·rw [if_neg c48] at H
              have c48b0:(a0_5 == (-1))=false:=beq_eq_false_iff_ne.mpr c48
              have c48b1:(a0_5 != (-1))=true:=bne_iff_ne.mpr c48
              replace H:=Option.bind_eq_some_iff.mp H
              obtain ⟨t125,A500,H⟩:=H
              replace H:(if t125=true then ((Y37.f a0_5).bind fun t126=>(some t126)) else (some false))=some r:=H
              have A50:=Aside0.mk A500
              clear A500
              by_cases c51:t125=true
              ·subst c51
               have H1:((Y37.f a0_5).bind fun t126=>(some t126))=some r:=by rw [if_pos rfl] at H;exact H
               clear H
               have H:=H1
               clear H1
               replace H:=Option.bind_eq_some_iff.mp H
               obtain ⟨t126,A520,H⟩:=H
               replace H:(some t126)=some r:=H
               have A52:=Aside0.mk A520
               clear A520
               obtain rfl:=Option.some.inj H
               have hcz53_0:wc.cell? ⟨gb115,0,none⟩=some (.int .i64 a0_0):=(blk_cell BK115.out 0).trans rfl
               have hcz53_1:wc.cell? ⟨gb115,1,none⟩=some (.int .i64 a0_1):=(blk_cell BK115.out 1).trans rfl
               have hcz53_2:wc.cell? ⟨gb115,2,none⟩=some (.int .i64 a0_2):=(blk_cell BK115.out 2).trans rfl
               have hcz53_3:wc.cell? ⟨gb115,3,none⟩=some (.string a0_3):=(blk_cell BK115.out 3).trans rfl
               have hcz53_4:wc.cell? ⟨gb115,4,none⟩=some (.string a0_4):=(blk_cell BK115.out 4).trans rfl
               have hcz53_5:wc.cell? ⟨gb115,5,none⟩=some (.int .i64 a0_5):=(blk_cell BK115.out 5).trans rfl
               have hfz53_0:=blk_frozen BK115.out 0
               have hfz53_1:=blk_frozen BK115.out 1
               have hfz53_2:=blk_frozen BK115.out 2
               have hfz53_3:=blk_frozen BK115.out 3
               have hfz53_4:=blk_frozen BK115.out 4
               have hfz53_5:=blk_frozen BK115.out 5
               go_wp2_with (first | (go_at_call 29;(with_reducible refine (Y36.calls a0_0 true _ A50.out).mono ?_);rintro e w' ⟨rfl,⟨nd,rfl⟩⟩) | (go_at_call 30;(with_reducible refine (Y37.calls a0_5 t126 _ A52.out).mono ?_);rintro e w' ⟨rfl,⟨nd,rfl⟩⟩))
               go_ret
               exact ⟨by first | rfl | (simp [errW_none,errW_some] <;> rfl) | (simp [*,errW_none,errW_some] <;> rfl),by repeat (first | (with_reducible first | exact HB.out | apply below_alloc | apply pw_below_drewN | apply below_drew1 | refine below_set ?_ GE115.out) | exact HB.out)⟩
              ·replace c51:=Bool.eq_false_iff.mpr c51
               subst c51
               have H1:(some false)=some r:=by rw [if_neg (show ¬ (false=true) by decide)] at H;exact H
               clear H
               have H:=H1
               clear H1
               obtain rfl:=Option.some.inj H
               have hcz54_0:wc.cell? ⟨gb115,0,none⟩=some (.int .i64 a0_0):=(blk_cell BK115.out 0).trans rfl
               have hcz54_1:wc.cell? ⟨gb115,1,none⟩=some (.int .i64 a0_1):=(blk_cell BK115.out 1).trans rfl
               have hcz54_2:wc.cell? ⟨gb115,2,none⟩=some (.int .i64 a0_2):=(blk_cell BK115.out 2).trans rfl
               have hcz54_3:wc.cell? ⟨gb115,3,none⟩=some (.string a0_3):=(blk_cell BK115.out 3).trans rfl
               have hcz54_4:wc.cell? ⟨gb115,4,none⟩=some (.string a0_4):=(blk_cell BK115.out 4).trans rfl
               have hcz54_5:wc.cell? ⟨gb115,5,none⟩=some (.int .i64 a0_5):=(blk_cell BK115.out 5).trans rfl
               have hfz54_0:=blk_frozen BK115.out 0
               have hfz54_1:=blk_frozen BK115.out 1
               have hfz54_2:=blk_frozen BK115.out 2
               have hfz54_3:=blk_frozen BK115.out 3
               have hfz54_4:=blk_frozen BK115.out 4
               have hfz54_5:=blk_frozen BK115.out 5
               go_wp2_with (first | (go_at_call 29;(with_reducible refine (Y36.calls a0_0 false _ A50.out).mono ?_);rintro e w' ⟨rfl,⟨nd,rfl⟩⟩))
               go_ret
               exact ⟨by first | rfl | (simp [errW_none,errW_some] <;> rfl) | (simp [*,errW_none,errW_some] <;> rfl),by repeat (first | (with_reducible first | exact HB.out | apply below_alloc | apply pw_below_drewN | apply below_drew1 | refine below_set ?_ GE115.out) | exact HB.out)⟩


/-! ### Y15: function 16 -/
def Y15.l0:Nat→Int→Bool→ByteArray→Option (ByteArray)
 | 0,_,_,_=>none
 | k+1,x0,x3,x4=>if x0=0 then (if x3=true then (if 1+x4.size≤9223372036854775807 then (some ((⟨#[45]⟩:ByteArray) ++ x4)) else (none)) else (some x4)) else (if (Int.tmod x0 10)<0 then ((some (([(wrap64 (48+(wrap64 (-(Int.tmod x0 10))))) % 256]:List Int):List Int)).bind fun y127=>(if (strOfNums y127).size+x4.size≤9223372036854775807 then (Y15.l0 k (wrap64 (Int.tdiv x0 10)) x3 ((strOfNums y127) ++ x4)) else (none))) else ((some (([(wrap64 (48+(Int.tmod x0 10))) % 256]:List Int):List Int)).bind fun y130=>(if (strOfNums y130).size+x4.size≤9223372036854775807 then (Y15.l0 k (wrap64 (Int.tdiv x0 10)) x3 ((strOfNums y130) ++ x4)) else (none))))
def Y15.f (k:Nat) (a0:Int):Option (ByteArray):=if a0=0 then (some (⟨#[48]⟩:ByteArray)) else (Y15.l0 k a0 (decide (a0<0)) (⟨#[]⟩:ByteArray))
theorem Y15.mono_l:∀ k,(∀ y0 y1 y2,LeO (Y15.l0 k y0 y1 y2) (Y15.l0 (k+1) y0 y1 y2))
 | 0=>fun _ _ _ r h=>by simp [Y15.l0] at h
 | k+1=>by
  have ih0:=Y15.mono_l k
  ·intro y0 y1 y2
   unfold Y15.l0
   repeat' first
   | (with_reducible exact ih0 _ _ _)
   | (with_reducible exact LeO.refl _)
   | (with_reducible exact LeO.none _)
   | (with_reducible refine LeO.ite ?_ ?_)
   | (with_reducible refine LeO.bind ?_ (fun _=>?_))
   | exact ih0 _ _ _
   | exact LeO.none _
   | refine LeO.ite ?_ ?_
   | refine LeO.bind ?_ (fun _=>?_)
theorem Y15.mono:∀ a0 k,LeO (Y15.f k a0) (Y15.f (k+1) a0):=by
 intro a0 k
 have ih0:=Y15.mono_l k
 unfold Y15.f
 repeat' first
   | (with_reducible exact ih0 _ _ _)
   | (with_reducible exact LeO.refl _)
   | (with_reducible exact LeO.none _)
   | (with_reducible refine LeO.ite ?_ ?_)
   | (with_reducible refine LeO.bind ?_ (fun _=>?_))
   | exact ih0 _ _ _
   | exact LeO.none _
   | refine LeO.ite ?_ ?_
   | refine LeO.bind ?_ (fun _=>?_)
set_option maxHeartbeats 8000000 in
set_option maxRecDepth 100000 in
theorem Y15.calls (k:Nat) (a0:Int) (r:ByteArray) (w:World) (h:Y15.f k a0=some r) :
  Calls Tryd.prog 16 #[.int .i64 a0] w fun e w'=>e = .returned (.string r)∧Below w.heap.size w w':=by
 have HB:=Aside0.mk (Below.refl w.heap.size w)
 have H:(if a0=0 then (some (⟨#[48]⟩:ByteArray)) else (Y15.l0 k a0 (decide (a0<0)) (⟨#[]⟩:ByteArray)))=some r:=h
 clear h
 by_cases c2:a0=0
 ·rw [if_pos c2] at H
  have c2b0:(a0 == 0)=true:=beq_iff_eq.mpr c2
  have c2b1:(a0 != 0)=false:=bne_eq_false_iff_eq.mpr c2
  clear c2
  obtain rfl:=Option.some.inj H
  go_enter Tryd.func16,Tryd.ntmps16
  go_wp2
  go_ret
  exact ⟨by first | rfl | (simp [errW_none,errW_some] <;> rfl) | (simp [*,errW_none,errW_some] <;> rfl),by repeat (first | (with_reducible first | exact HB.out | apply below_alloc | apply pw_below_drewN | apply below_drew1) | exact HB.out)⟩
 ·rw [if_neg c2] at H
  have c2b0:(a0 == 0)=false:=beq_eq_false_iff_ne.mpr c2
  have c2b1:(a0 != 0)=true:=bne_iff_ne.mpr c2
  have H':=Aside0.mk H
  clear H
  go_enter Tryd.func16,Tryd.ntmps16
  go_wp2
  go_loopg [0,4] k (fun kq v0 v4 w'=>∃ (x0_1:Int) (x4_1:ByteArray),v0 = .int .i64 x0_1∧v4 = .string x4_1∧Aside0 (Y15.l0 kq x0_1 (decide (a0<0)) x4_1=some r)∧Aside0 (kq≤k)∧Aside0 (Below w.heap.size w w'))
  case atStart=>exact ⟨(a0),((⟨#[]⟩:ByteArray)),(by first | rfl | (simp;done) | (simp [*];done) | (simp [bne];done)),(by first | rfl | (simp;done) | (simp [*];done) | (simp [bne];done)),H',⟨Nat.le_refl _⟩,⟨by repeat (first | (with_reducible first | exact HB.out | apply below_alloc | apply pw_below_drewN | apply below_drew1) | exact HB.out)⟩⟩
  case round =>
   clear H'
   try clear c1
   try clear c2
   try clear c2b0
   try clear c2b1
   try clear p2
   obtain ⟨x0_1,x4_1,rfl,rfl,HA,HK1,HB⟩:=hrel
   cases gk with
   | zero=>exact absurd HA.out (by simp [Y15.l0])
   | succ k1 =>
    have H:=HA.out
    clear HA
    simp only [Y15.l0] at H
    by_cases c3:x0_1=0
    ·rw [if_pos c3] at H
     have c3b0:(x0_1 == 0)=true:=beq_iff_eq.mpr c3
     have c3b1:(x0_1 != 0)=false:=bne_eq_false_iff_eq.mpr c3
     clear c3
     by_cases c4:(decide (a0<0))=true
     ·rw [if_pos c4] at H
      have c4b0:(decide (a0<0))=true:=c4
      have c4q0:(a0<0):=of_decide_eq_true c4b0
      have c4q1:=eq_true c4q0
      clear c4
      by_cases c5:1+x4_1.size≤9223372036854775807
      ·rw [if_pos c5] at H
       have c5b0:=eq_true c5
       have c5b1:decide (1+x4_1.size≤9223372036854775807)=true:=decide_eq_true c5
       try have c5b2:(9223372036854775807<1+x4_1.size)=False:=eq_false (Nat.not_lt.2 c5)
       obtain rfl:=Option.some.inj H
       go_wp2
       go_ret
       exact ⟨by first | rfl | (simp [errW_none,errW_some] <;> rfl) | (simp [*,errW_none,errW_some] <;> rfl),by repeat (first | (with_reducible first | exact HB.out | apply below_alloc | apply pw_below_drewN | apply below_drew1) | exact HB.out)⟩
      ·rw [if_neg c5] at H
       exact absurd H (by simp)
     ·rw [if_neg c4] at H
      have c4b0:(decide (a0<0))=false:=by simpa using c4
      have c4q0:¬ (a0<0):=of_decide_eq_false c4b0
      have c4q1:=eq_false c4q0
      clear c4
      obtain rfl:=Option.some.inj H
      go_wp2
      go_ret
      exact ⟨by first | rfl | (simp [errW_none,errW_some] <;> rfl) | (simp [*,errW_none,errW_some] <;> rfl),by repeat (first | (with_reducible first | exact HB.out | apply below_alloc | apply pw_below_drewN | apply below_drew1) | exact HB.out)⟩
    ·rw [if_neg c3] at H
     have c3b0:(x0_1 == 0)=false:=beq_eq_false_iff_ne.mpr c3
     have c3b1:(x0_1 != 0)=true:=bne_iff_ne.mpr c3
     by_cases c6:(Int.tmod x0_1 10)<0
     ·rw [if_pos c6] at H
      have c6b0:decide ((Int.tmod x0_1 10)<0)=true:=decide_eq_true c6
      clear c6
      obtain ⟨y127,hy127⟩:∃ y_:List Int,y_=(([(wrap64 (48+(wrap64 (-(Int.tmod x0_1 10))))) % 256]:List Int)):=⟨_,rfl⟩
      replace H:(if (strOfNums y127).size+x4_1.size≤9223372036854775807 then (Y15.l0 k1 (wrap64 (Int.tdiv x0_1 10)) (decide (a0<0)) ((strOfNums y127) ++ x4_1)) else (none))=some r:=by first | (rw [hy127];with_reducible exact H) | (have H2_:=(Option.bind_some _ _).symm.trans H;rw [hy127];with_reducible exact H2_) | (have H2_:=(Option.bind_some _ _).symm.trans H;with_reducible exact H2_) | with_reducible exact H | (rw [hy127];exact H) | exact H
      have Ny127:=Aside0.mk hy127
      clear hy127
      by_cases c7:(strOfNums y127).size+x4_1.size≤9223372036854775807
      ·rw [if_pos c7] at H
       have c7b0:=eq_true c7
       have c7b1:decide ((strOfNums y127).size+x4_1.size≤9223372036854775807)=true:=decide_eq_true c7
       try have c7b2:(9223372036854775807<(strOfNums y127).size+x4_1.size)=False:=eq_false (Nat.not_lt.2 c7)
       have H':=Aside0.mk H
       clear H
       go_wp2_with (first | ((with_reducible refine gate_dst (N:=21) rfl ?_);refine Kd.R_lit (Kd.int .u8) _ 5 ?hg (N:=21) ?hd (xs:=([(wrap64 (48+(wrap64 (-(Int.tmod x0_1 10))))) % 256]:List Int)) (inner:=[.int .u8 ((wrap64 (48+(wrap64 (-(Int.tmod x0_1 10))))) % 256)]) (ok:=fun _=>True) (okp:=fun _=>True) ?hr ?hp (fun _ hk=>hk) trivial (Below.refl _ _) (Nat.le_refl _) (by simp) ?_;(case hd=>rfl);(case hg=>rfl);(case hr=>first | (go_simp;done) | (go_simp;rfl));(case hp=>exact (Reps.one (show Kd.M (Kd.int .u8) _ _ _ ((wrap64 (48+(wrap64 (-(Int.tmod x0_1 10))))) % 256) [.int .u8 ((wrap64 (48+(wrap64 (-(Int.tmod x0_1 10))))) % 256)] from rfl) (Reps.none _ _)));intro v128 w8 ho9 hb hg_ hnew_;clear hg_ hnew_;(first | rw [← Ny127.out] at ho9 | (simp only [Int.reduceToNat] at ho9;rw [← Ny127.out] at ho9));have n0_:=Aside0.mk (Kd.R_lower ho9 (below_size (by repeat (first | (with_reducible first | exact HB.out | apply below_alloc | apply pw_below_drewN | apply below_drew1) | exact HB.out))));have n1_:=Aside0.mk (below_step (by repeat (first | (with_reducible first | exact HB.out | apply below_alloc | apply pw_below_drewN | apply below_drew1) | exact HB.out)) hb);clear HB;have HO129:=n0_;have HB:=n1_;clear n0_ n1_;clear hb ho9;have hcv10:=own_string (P:=Tryd.prog) Tryd.underlying55 Tryd.underlying5 Tryd.underlying9 (Kd.own_of_R HO129.out)))
       go_roundg k1
       case measure=>have:=HK1.out;omega
       case rel=>exact ⟨(wrap64 (Int.tdiv x0_1 10)),((strOfNums y127) ++ x4_1),(by first | rfl | (simp;done) | (simp [*];done) | (simp [bne];done)),(by first | rfl | (simp;done) | (simp [*];done) | (simp [bne];done)),H',⟨by have:=HK1.out;omega⟩,⟨by repeat (first | (with_reducible first | exact HB.out | apply below_alloc | apply pw_below_drewN | apply below_drew1) | exact HB.out)⟩⟩
      ·rw [if_neg c7] at H
       exact absurd H (by simp)
     ·rw [if_neg c6] at H
      have c6b0:decide ((Int.tmod x0_1 10)<0)=false:=decide_eq_false c6
      clear c6
      obtain ⟨y130,hy130⟩:∃ y_:List Int,y_=(([(wrap64 (48+(Int.tmod x0_1 10))) % 256]:List Int)):=⟨_,rfl⟩
      replace H:(if (strOfNums y130).size+x4_1.size≤9223372036854775807 then (Y15.l0 k1 (wrap64 (Int.tdiv x0_1 10)) (decide (a0<0)) ((strOfNums y130) ++ x4_1)) else (none))=some r:=by first | (rw [hy130];with_reducible exact H) | (have H2_:=(Option.bind_some _ _).symm.trans H;rw [hy130];with_reducible exact H2_) | (have H2_:=(Option.bind_some _ _).symm.trans H;with_reducible exact H2_) | with_reducible exact H | (rw [hy130];exact H) | exact H
      have Ny130:=Aside0.mk hy130
      clear hy130
      by_cases c11:(strOfNums y130).size+x4_1.size≤9223372036854775807
      ·rw [if_pos c11] at H
       have c11b0:=eq_true c11
       have c11b1:decide ((strOfNums y130).size+x4_1.size≤9223372036854775807)=true:=decide_eq_true c11
       try have c11b2:(9223372036854775807<(strOfNums y130).size+x4_1.size)=False:=eq_false (Nat.not_lt.2 c11)
       have H':=Aside0.mk H
       clear H
       go_wp2_with (first | ((with_reducible refine gate_dst (N:=21) rfl ?_);refine Kd.R_lit (Kd.int .u8) _ 5 ?hg (N:=21) ?hd (xs:=([(wrap64 (48+(Int.tmod x0_1 10))) % 256]:List Int)) (inner:=[.int .u8 ((wrap64 (48+(Int.tmod x0_1 10))) % 256)]) (ok:=fun _=>True) (okp:=fun _=>True) ?hr ?hp (fun _ hk=>hk) trivial (Below.refl _ _) (Nat.le_refl _) (by simp) ?_;(case hd=>rfl);(case hg=>rfl);(case hr=>first | (go_simp;done) | (go_simp;rfl));(case hp=>exact (Reps.one (show Kd.M (Kd.int .u8) _ _ _ ((wrap64 (48+(Int.tmod x0_1 10))) % 256) [.int .u8 ((wrap64 (48+(Int.tmod x0_1 10))) % 256)] from rfl) (Reps.none _ _)));intro v131 w12 ho13 hb hg_ hnew_;clear hg_ hnew_;(first | rw [← Ny130.out] at ho13 | (simp only [Int.reduceToNat] at ho13;rw [← Ny130.out] at ho13));have n0_:=Aside0.mk (Kd.R_lower ho13 (below_size (by repeat (first | (with_reducible first | exact HB.out | apply below_alloc | apply pw_below_drewN | apply below_drew1) | exact HB.out))));have n1_:=Aside0.mk (below_step (by repeat (first | (with_reducible first | exact HB.out | apply below_alloc | apply pw_below_drewN | apply below_drew1) | exact HB.out)) hb);clear HB;have HO132:=n0_;have HB:=n1_;clear n0_ n1_;clear hb ho13;have hcv14:=own_string (P:=Tryd.prog) Tryd.underlying55 Tryd.underlying5 Tryd.underlying9 (Kd.own_of_R HO132.out)))
       go_roundg k1
       case measure=>have:=HK1.out;omega
       case rel=>exact ⟨(wrap64 (Int.tdiv x0_1 10)),((strOfNums y130) ++ x4_1),(by first | rfl | (simp;done) | (simp [*];done) | (simp [bne];done)),(by first | rfl | (simp;done) | (simp [*];done) | (simp [bne];done)),H',⟨by have:=HK1.out;omega⟩,⟨by repeat (first | (with_reducible first | exact HB.out | apply below_alloc | apply pw_below_drewN | apply below_drew1) | exact HB.out)⟩⟩
      ·rw [if_neg c11] at H
       exact absurd H (by simp)


/-! ### Y8: function 11 -/
mutual
def Y8.j0:Nat→Bool→Bool→Bool→Bool→ByteArray→Int→Int→Int→ByteArray→ByteArray→Int→Option (ByteArray)
 | 0,_,_,_,_,_,_,_,_,_,_,_=>none
 | k+1,x3,x4,x5,x6,x7,x134000,x134001,x134002,x134003,x134004,x134005=>if x3=true then (if x7.size+1≤9223372036854775807 then ((Y15.f k x134001).bind fun t141=>(if (x7.size+1)+t141.size≤9223372036854775807 then (Y8.j1 k x4 x5 x6 ((x7 ++ (⟨#[32]⟩:ByteArray)) ++ t141) x134000 x134001 x134002 x134003 x134004 x134005) else (none))) else (none)) else (Y8.j1 k x4 x5 x6 x7 x134000 x134001 x134002 x134003 x134004 x134005)
def Y8.j1:Nat→Bool→Bool→Bool→ByteArray→Int→Int→Int→ByteArray→ByteArray→Int→Option (ByteArray)
 | 0,_,_,_,_,_,_,_,_,_,_=>none
 | k+1,x4,x5,x6,x7,x134000,x134001,x134002,x134003,x134004,x134005=>if x4=true then (if x7.size+1≤9223372036854775807 then ((Y15.f k x134002).bind fun t142=>(if (x7.size+1)+t142.size≤9223372036854775807 then (Y8.j2 k x5 x6 ((x7 ++ (⟨#[32]⟩:ByteArray)) ++ t142) x134000 x134001 x134002 x134003 x134004 x134005) else (none))) else (none)) else (Y8.j2 k x5 x6 x7 x134000 x134001 x134002 x134003 x134004 x134005)
def Y8.j2:Nat→Bool→Bool→ByteArray→Int→Int→Int→ByteArray→ByteArray→Int→Option (ByteArray)
 | 0,_,_,_,_,_,_,_,_,_=>none
 | k+1,x5,x6,x7,x134000,x134001,x134002,x134003,x134004,x134005=>if x5=true then (if x7.size+1≤9223372036854775807 then (if (x7.size+1)+x134003.size≤9223372036854775807 then (Y8.j3 k x6 ((x7 ++ (⟨#[32]⟩:ByteArray)) ++ x134003) x134000 x134001 x134002 x134003 x134004 x134005) else (none)) else (none)) else (Y8.j3 k x6 x7 x134000 x134001 x134002 x134003 x134004 x134005)
def Y8.j3:Nat→Bool→ByteArray→Int→Int→Int→ByteArray→ByteArray→Int→Option (ByteArray)
 | 0,_,_,_,_,_,_,_,_=>none
 | k+1,x6,x7,x134000,x134001,x134002,x134003,x134004,x134005=>if x6=true then (if x7.size+1≤9223372036854775807 then (if (x7.size+1)+x134004.size≤9223372036854775807 then (some ((x7 ++ (⟨#[32]⟩:ByteArray)) ++ x134004)) else (none)) else (none)) else (some x7)
end
def Y8.f (k:Nat) (a0_0:Int) (a0_1:Int) (a0_2:Int) (a0_3:ByteArray) (a0_4:ByteArray) (a0_5:Int):Option (ByteArray):=(Y5.f k a0_0 a0_1 a0_2 a0_3 a0_4 a0_5).bind fun t134=>(if t134=true then ((Y12.f k a0_0).bind fun bt135=>((Y9.f k a0_0).bind fun t139=>(if a0_5=(-1) then (Y8.j0 k bt135.1 bt135.2.1 bt135.2.2.1 bt135.2.2.2 t139 a0_0 a0_1 a0_2 a0_3 a0_4 a0_5) else ((Y15.f k a0_5).bind fun t140=>(if 1+t140.size≤9223372036854775807 then (if (1+t140.size)+1≤9223372036854775807 then (if ((1+t140.size)+1)+t139.size≤9223372036854775807 then (Y8.j0 k bt135.1 bt135.2.1 bt135.2.2.1 bt135.2.2.2 ((((⟨#[33]⟩:ByteArray) ++ t140) ++ (⟨#[32]⟩:ByteArray)) ++ t139) a0_0 a0_1 a0_2 a0_3 a0_4 a0_5) else (none)) else (none)) else (none)))))) else (some (⟨#[]⟩:ByteArray)))
theorem Y8.mono_l:∀ k,(∀ y0 y1 y2 y3 y4 y5 y6 y7 y8 y9 y10,LeO (Y8.j0 k y0 y1 y2 y3 y4 y5 y6 y7 y8 y9 y10) (Y8.j0 (k+1) y0 y1 y2 y3 y4 y5 y6 y7 y8 y9 y10))∧(∀ y0 y1 y2 y3 y4 y5 y6 y7 y8 y9,LeO (Y8.j1 k y0 y1 y2 y3 y4 y5 y6 y7 y8 y9) (Y8.j1 (k+1) y0 y1 y2 y3 y4 y5 y6 y7 y8 y9))∧(∀ y0 y1 y2 y3 y4 y5 y6 y7 y8,LeO (Y8.j2 k y0 y1 y2 y3 y4 y5 y6 y7 y8) (Y8.j2 (k+1) y0 y1 y2 y3 y4 y5 y6 y7 y8))∧(∀ y0 y1 y2 y3 y4 y5 y6 y7,LeO (Y8.j3 k y0 y1 y2 y3 y4 y5 y6 y7) (Y8.j3 (k+1) y0 y1 y2 y3 y4 y5 y6 y7))
 | 0=>⟨fun _ _ _ _ _ _ _ _ _ _ _ r h=>by simp [Y8.j0] at h,fun _ _ _ _ _ _ _ _ _ _ r h=>by simp [Y8.j1] at h,fun _ _ _ _ _ _ _ _ _ r h=>by simp [Y8.j2] at h,fun _ _ _ _ _ _ _ _ r h=>by simp [Y8.j3] at h⟩
 | k+1=>by
  obtain ⟨ih0,ih1,ih2,ih3⟩:=Y8.mono_l k
  refine ⟨?_,?_,?_,?_⟩
  ·intro y0 y1 y2 y3 y4 y5 y6 y7 y8 y9 y10
   unfold Y8.j0
   repeat' first
   | (with_reducible exact ih0 _ _ _ _ _ _ _ _ _ _ _)
   | (with_reducible exact ih1 _ _ _ _ _ _ _ _ _ _)
   | (with_reducible exact ih2 _ _ _ _ _ _ _ _ _)
   | (with_reducible exact ih3 _ _ _ _ _ _ _ _)
   | (with_reducible exact Y5.mono _ _ _ _ _ _ _)
   | (with_reducible exact Y15.mono _ _)
   | (with_reducible exact Y12.mono _ _)
   | (with_reducible exact Y9.mono _ _)
   | (with_reducible exact LeO.refl _)
   | (with_reducible exact LeO.none _)
   | (with_reducible refine LeO.ite ?_ ?_)
   | (with_reducible refine LeO.bind ?_ (fun _=>?_))
   | exact ih0 _ _ _ _ _ _ _ _ _ _ _
   | exact ih1 _ _ _ _ _ _ _ _ _ _
   | exact ih2 _ _ _ _ _ _ _ _ _
   | exact ih3 _ _ _ _ _ _ _ _
   | exact Y5.mono _ _ _ _ _ _ _
   | exact Y15.mono _ _
   | exact Y12.mono _ _
   | exact Y9.mono _ _
   | exact LeO.none _
   | refine LeO.ite ?_ ?_
   | refine LeO.bind ?_ (fun _=>?_)
  ·intro y0 y1 y2 y3 y4 y5 y6 y7 y8 y9
   unfold Y8.j1
   repeat' first
   | (with_reducible exact ih0 _ _ _ _ _ _ _ _ _ _ _)
   | (with_reducible exact ih1 _ _ _ _ _ _ _ _ _ _)
   | (with_reducible exact ih2 _ _ _ _ _ _ _ _ _)
   | (with_reducible exact ih3 _ _ _ _ _ _ _ _)
   | (with_reducible exact Y5.mono _ _ _ _ _ _ _)
   | (with_reducible exact Y15.mono _ _)
   | (with_reducible exact Y12.mono _ _)
   | (with_reducible exact Y9.mono _ _)
   | (with_reducible exact LeO.refl _)
   | (with_reducible exact LeO.none _)
   | (with_reducible refine LeO.ite ?_ ?_)
   | (with_reducible refine LeO.bind ?_ (fun _=>?_))
   | exact ih0 _ _ _ _ _ _ _ _ _ _ _
   | exact ih1 _ _ _ _ _ _ _ _ _ _
   | exact ih2 _ _ _ _ _ _ _ _ _
   | exact ih3 _ _ _ _ _ _ _ _
   | exact Y5.mono _ _ _ _ _ _ _
   | exact Y15.mono _ _
   | exact Y12.mono _ _
   | exact Y9.mono _ _
   | exact LeO.none _
   | refine LeO.ite ?_ ?_
   | refine LeO.bind ?_ (fun _=>?_)
  ·intro y0 y1 y2 y3 y4 y5 y6 y7 y8
   unfold Y8.j2
   repeat' first
   | (with_reducible exact ih0 _ _ _ _ _ _ _ _ _ _ _)
   | (with_reducible exact ih1 _ _ _ _ _ _ _ _ _ _)
   | (with_reducible exact ih2 _ _ _ _ _ _ _ _ _)
   | (with_reducible exact ih3 _ _ _ _ _ _ _ _)
   | (with_reducible exact Y5.mono _ _ _ _ _ _ _)
   | (with_reducible exact Y15.mono _ _)
   | (with_reducible exact Y12.mono _ _)
   | (with_reducible exact Y9.mono _ _)
   | (with_reducible exact LeO.refl _)
   | (with_reducible exact LeO.none _)
   | (with_reducible refine LeO.ite ?_ ?_)
   | (with_reducible refine LeO.bind ?_ (fun _=>?_))
   | exact ih0 _ _ _ _ _ _ _ _ _ _ _
   | exact ih1 _ _ _ _ _ _ _ _ _ _
   | exact ih2 _ _ _ _ _ _ _ _ _
   | exact ih3 _ _ _ _ _ _ _ _
   | exact Y5.mono _ _ _ _ _ _ _
   | exact Y15.mono _ _
   | exact Y12.mono _ _
   | exact Y9.mono _ _
   | exact LeO.none _
   | refine LeO.ite ?_ ?_
   | refine LeO.bind ?_ (fun _=>?_)
  ·intro y0 y1 y2 y3 y4 y5 y6 y7
   unfold Y8.j3
   repeat' first
   | (with_reducible exact ih0 _ _ _ _ _ _ _ _ _ _ _)
   | (with_reducible exact ih1 _ _ _ _ _ _ _ _ _ _)
   | (with_reducible exact ih2 _ _ _ _ _ _ _ _ _)
   | (with_reducible exact ih3 _ _ _ _ _ _ _ _)
   | (with_reducible exact Y5.mono _ _ _ _ _ _ _)
   | (with_reducible exact Y15.mono _ _)
   | (with_reducible exact Y12.mono _ _)
   | (with_reducible exact Y9.mono _ _)
   | (with_reducible exact LeO.refl _)
   | (with_reducible exact LeO.none _)
   | (with_reducible refine LeO.ite ?_ ?_)
   | (with_reducible refine LeO.bind ?_ (fun _=>?_))
   | exact ih0 _ _ _ _ _ _ _ _ _ _ _
   | exact ih1 _ _ _ _ _ _ _ _ _ _
   | exact ih2 _ _ _ _ _ _ _ _ _
   | exact ih3 _ _ _ _ _ _ _ _
   | exact Y5.mono _ _ _ _ _ _ _
   | exact Y15.mono _ _
   | exact Y12.mono _ _
   | exact Y9.mono _ _
   | exact LeO.none _
   | refine LeO.ite ?_ ?_
   | refine LeO.bind ?_ (fun _=>?_)
theorem Y8.mono:∀ a0 a1 a2 a3 a4 a5 k,LeO (Y8.f k a0 a1 a2 a3 a4 a5) (Y8.f (k+1) a0 a1 a2 a3 a4 a5):=by
 intro a0 a1 a2 a3 a4 a5 k
 obtain ⟨ih0,ih1,ih2,ih3⟩:=Y8.mono_l k
 unfold Y8.f
 repeat' first
   | (with_reducible exact ih0 _ _ _ _ _ _ _ _ _ _ _)
   | (with_reducible exact ih1 _ _ _ _ _ _ _ _ _ _)
   | (with_reducible exact ih2 _ _ _ _ _ _ _ _ _)
   | (with_reducible exact ih3 _ _ _ _ _ _ _ _)
   | (with_reducible exact Y5.mono _ _ _ _ _ _ _)
   | (with_reducible exact Y15.mono _ _)
   | (with_reducible exact Y12.mono _ _)
   | (with_reducible exact Y9.mono _ _)
   | (with_reducible exact LeO.refl _)
   | (with_reducible exact LeO.none _)
   | (with_reducible refine LeO.ite ?_ ?_)
   | (with_reducible refine LeO.bind ?_ (fun _=>?_))
   | exact ih0 _ _ _ _ _ _ _ _ _ _ _
   | exact ih1 _ _ _ _ _ _ _ _ _ _
   | exact ih2 _ _ _ _ _ _ _ _ _
   | exact ih3 _ _ _ _ _ _ _ _
   | exact Y5.mono _ _ _ _ _ _ _
   | exact Y15.mono _ _
   | exact Y12.mono _ _
   | exact Y9.mono _ _
   | exact LeO.none _
   | refine LeO.ite ?_ ?_
   | refine LeO.bind ?_ (fun _=>?_)
set_option maxHeartbeats 8000000 in
set_option maxRecDepth 100000 in
theorem Y8.calls (k:Nat) (a0_0:Int) (a0_1:Int) (a0_2:Int) (a0_3:ByteArray) (a0_4:ByteArray) (a0_5:Int) (r:ByteArray) (w:World) (h:Y8.f k a0_0 a0_1 a0_2 a0_3 a0_4 a0_5=some r) :
  Calls Tryd.prog 11 #[.agg #[.int .i64 a0_0,.int .i64 a0_1,.int .i64 a0_2,.string a0_3,.string a0_4,.int .i64 a0_5]] w fun e w'=>e = .returned (.string r)∧Below w.heap.size w w':=by
 have hu23:=Tryd.underlying23
 have HB:=Aside0.mk (Below.refl w.heap.size w)
 have H:((Y5.f k a0_0 a0_1 a0_2 a0_3 a0_4 a0_5).bind fun t134=>(if t134=true then ((Y12.f k a0_0).bind fun bt135=>((Y9.f k a0_0).bind fun t139=>(if a0_5=(-1) then (Y8.j0 k bt135.1 bt135.2.1 bt135.2.2.1 bt135.2.2.2 t139 a0_0 a0_1 a0_2 a0_3 a0_4 a0_5) else ((Y15.f k a0_5).bind fun t140=>(if 1+t140.size≤9223372036854775807 then (if (1+t140.size)+1≤9223372036854775807 then (if ((1+t140.size)+1)+t139.size≤9223372036854775807 then (Y8.j0 k bt135.1 bt135.2.1 bt135.2.2.1 bt135.2.2.2 ((((⟨#[33]⟩:ByteArray) ++ t140) ++ (⟨#[32]⟩:ByteArray)) ++ t139) a0_0 a0_1 a0_2 a0_3 a0_4 a0_5) else (none)) else (none)) else (none)))))) else (some (⟨#[]⟩:ByteArray))))=some r:=h
 clear h
 replace H:=Option.bind_eq_some_iff.mp H
 obtain ⟨t134,A20,H⟩:=H
 replace H:(if t134=true then ((Y12.f k a0_0).bind fun bt135=>((Y9.f k a0_0).bind fun t139=>(if a0_5=(-1) then (Y8.j0 k bt135.1 bt135.2.1 bt135.2.2.1 bt135.2.2.2 t139 a0_0 a0_1 a0_2 a0_3 a0_4 a0_5) else ((Y15.f k a0_5).bind fun t140=>(if 1+t140.size≤9223372036854775807 then (if (1+t140.size)+1≤9223372036854775807 then (if ((1+t140.size)+1)+t139.size≤9223372036854775807 then (Y8.j0 k bt135.1 bt135.2.1 bt135.2.2.1 bt135.2.2.2 ((((⟨#[33]⟩:ByteArray) ++ t140) ++ (⟨#[32]⟩:ByteArray)) ++ t139) a0_0 a0_1 a0_2 a0_3 a0_4 a0_5) else (none)) else (none)) else (none)))))) else (some (⟨#[]⟩:ByteArray)))=some r:=H
 have A2:=Aside0.mk A20
 clear A20
 by_cases c3:t134=true
 ·subst c3
  have H1:((Y12.f k a0_0).bind fun bt135=>((Y9.f k a0_0).bind fun t139=>(if a0_5=(-1) then (Y8.j0 k bt135.1 bt135.2.1 bt135.2.2.1 bt135.2.2.2 t139 a0_0 a0_1 a0_2 a0_3 a0_4 a0_5) else ((Y15.f k a0_5).bind fun t140=>(if 1+t140.size≤9223372036854775807 then (if (1+t140.size)+1≤9223372036854775807 then (if ((1+t140.size)+1)+t139.size≤9223372036854775807 then (Y8.j0 k bt135.1 bt135.2.1 bt135.2.2.1 bt135.2.2.2 ((((⟨#[33]⟩:ByteArray) ++ t140) ++ (⟨#[32]⟩:ByteArray)) ++ t139) a0_0 a0_1 a0_2 a0_3 a0_4 a0_5) else (none)) else (none)) else (none))))))=some r:=by rw [if_pos rfl] at H;exact H
  clear H
  have H:=H1
  clear H1
  replace H:=Option.bind_eq_some_iff.mp H
  obtain ⟨⟨t135,t136,t137,t138⟩,A40,H⟩:=H
  replace H:((Y9.f k a0_0).bind fun t139=>(if a0_5=(-1) then (Y8.j0 k t135 t136 t137 t138 t139 a0_0 a0_1 a0_2 a0_3 a0_4 a0_5) else ((Y15.f k a0_5).bind fun t140=>(if 1+t140.size≤9223372036854775807 then (if (1+t140.size)+1≤9223372036854775807 then (if ((1+t140.size)+1)+t139.size≤9223372036854775807 then (Y8.j0 k t135 t136 t137 t138 ((((⟨#[33]⟩:ByteArray) ++ t140) ++ (⟨#[32]⟩:ByteArray)) ++ t139) a0_0 a0_1 a0_2 a0_3 a0_4 a0_5) else (none)) else (none)) else (none)))))=some r:=H
  have A4:=Aside0.mk A40
  clear A40
  replace H:=Option.bind_eq_some_iff.mp H
  obtain ⟨t139,A50,H⟩:=H
  replace H:(if a0_5=(-1) then (Y8.j0 k t135 t136 t137 t138 t139 a0_0 a0_1 a0_2 a0_3 a0_4 a0_5) else ((Y15.f k a0_5).bind fun t140=>(if 1+t140.size≤9223372036854775807 then (if (1+t140.size)+1≤9223372036854775807 then (if ((1+t140.size)+1)+t139.size≤9223372036854775807 then (Y8.j0 k t135 t136 t137 t138 ((((⟨#[33]⟩:ByteArray) ++ t140) ++ (⟨#[32]⟩:ByteArray)) ++ t139) a0_0 a0_1 a0_2 a0_3 a0_4 a0_5) else (none)) else (none)) else (none))))=some r:=H
  have A5:=Aside0.mk A50
  clear A50
  have HC6:=Aside0.mk H
  clear H
  go_enter Tryd.func11,Tryd.ntmps11
  go_upto_if 24 with (first | ((with_reducible refine gate_dst (N:=1) rfl ?_);refine box_event ?hg (N:=1) ?hd (cs:=#[.int .i64 a0_0,.int .i64 a0_1,.int .i64 a0_2,.string a0_3,.string a0_4,.int .i64 a0_5]) (t:=23) ?hr ?_;(case hd=>rfl);(case hg=>rfl);(case hr=>first | (go_simp;done) | (go_simp;rfl));intro gb133 hg w7 hbox hb;have n0_:=Aside0.mk (below_step (by repeat (first | (with_reducible first | exact HB.out | apply below_alloc | apply pw_below_drewN | apply below_drew1) | exact HB.out)) hb);have n1_:=Aside0.mk (hbox);have n2_:=Aside0.mk ((by rw [hg];exact (below_size (by repeat (first | (with_reducible first | exact HB.out | apply below_alloc | apply pw_below_drewN | apply below_drew1) | exact HB.out))):w.heap.size≤gb133));have n3_:=Aside0.mk ((by rw [hg];exact (below_size (by repeat (first | (with_reducible first | exact HB.out | apply below_alloc | apply pw_below_drewN | apply below_drew1) | exact HB.out))):w.heap.size≤gb133));clear HB;have HB:=n0_;have BK133:=n1_;have GW133:=n2_;have GE133:=n3_;clear n0_ n1_ n2_ n3_;clear hb hbox hg;have hcz8_0:w7.cell? ⟨gb133,0,none⟩=some (.int .i64 a0_0):=(blk_cell BK133.out 0).trans rfl;have hcz8_1:w7.cell? ⟨gb133,1,none⟩=some (.int .i64 a0_1):=(blk_cell BK133.out 1).trans rfl;have hcz8_2:w7.cell? ⟨gb133,2,none⟩=some (.int .i64 a0_2):=(blk_cell BK133.out 2).trans rfl;have hcz8_3:w7.cell? ⟨gb133,3,none⟩=some (.string a0_3):=(blk_cell BK133.out 3).trans rfl;have hcz8_4:w7.cell? ⟨gb133,4,none⟩=some (.string a0_4):=(blk_cell BK133.out 4).trans rfl;have hcz8_5:w7.cell? ⟨gb133,5,none⟩=some (.int .i64 a0_5):=(blk_cell BK133.out 5).trans rfl;have hfz8_0:=blk_frozen BK133.out 0;have hfz8_1:=blk_frozen BK133.out 1;have hfz8_2:=blk_frozen BK133.out 2;have hfz8_3:=blk_frozen BK133.out 3;have hfz8_4:=blk_frozen BK133.out 4;have hfz8_5:=blk_frozen BK133.out 5) | ((with_reducible refine gate_callee (f:=15) rfl ?_);refine goesL_ (some 9) rfl rfl Tryd.func15 (by kernel_rfl) rfl #[.agg #[.int .i64 a0_0,.int .i64 a0_1,.int .i64 a0_2,.string a0_3,.string a0_4,.int .i64 a0_5]] rfl (by (try simp only [List.map_toArray,List.map_cons,List.map_nil]);first | done | rfl | (simp only [List.length_drop,List.length_take];rfl)) ?_;(with_reducible refine (Y5.calls k a0_0 a0_1 a0_2 a0_3 a0_4 a0_5 true _ A2.out).mono ?_);rintro e w9 ⟨rfl,hb⟩;refine ⟨_,rfl,?_⟩;have n0_:=Aside0.mk (blk_below (g:=gb133) (o:=.cells #[.int .i64 a0_0,.int .i64 a0_1,.int .i64 a0_2,.string a0_3,.string a0_4,.int .i64 a0_5] 23 (0,0)) (by (with_reducible repeat (first | refine blk_drewN ?_ _ | refine blk_drew ?_ | refine blk_alloc ?_ _));exact BK133.out) hb);have n1_:=Aside0.mk (below_step (by repeat (first | (with_reducible first | exact HB.out | apply below_alloc | apply pw_below_drewN | apply below_drew1 | refine below_set ?_ GE133.out) | exact HB.out)) hb);clear BK133;clear HB;have BK133:=n0_;have HB:=n1_;clear n0_ n1_;(try clear hb);(try clear hb2);(try clear hk);(try clear hi);have hcz10_0:w9.cell? ⟨gb133,0,none⟩=some (.int .i64 a0_0):=(blk_cell BK133.out 0).trans rfl;have hcz10_1:w9.cell? ⟨gb133,1,none⟩=some (.int .i64 a0_1):=(blk_cell BK133.out 1).trans rfl;have hcz10_2:w9.cell? ⟨gb133,2,none⟩=some (.int .i64 a0_2):=(blk_cell BK133.out 2).trans rfl;have hcz10_3:w9.cell? ⟨gb133,3,none⟩=some (.string a0_3):=(blk_cell BK133.out 3).trans rfl;have hcz10_4:w9.cell? ⟨gb133,4,none⟩=some (.string a0_4):=(blk_cell BK133.out 4).trans rfl;have hcz10_5:w9.cell? ⟨gb133,5,none⟩=some (.int .i64 a0_5):=(blk_cell BK133.out 5).trans rfl;have hfz10_0:=blk_frozen BK133.out 0;have hfz10_1:=blk_frozen BK133.out 1;have hfz10_2:=blk_frozen BK133.out 2;have hfz10_3:=blk_frozen BK133.out 3;have hfz10_4:=blk_frozen BK133.out 4;have hfz10_5:=blk_frozen BK133.out 5) | ((with_reducible refine gate_callee (f:=10) rfl ?_);refine goesL_ (some 14) rfl rfl Tryd.func10 (by kernel_rfl) rfl #[.int .i64 a0_0] rfl (by (try simp only [List.map_toArray,List.map_cons,List.map_nil]);first | done | rfl | (simp only [List.length_drop,List.length_take];rfl)) ?_;(with_reducible refine (Y12.calls k a0_0 t135 t136 t137 t138 _ A4.out).mono ?_);rintro e w' ⟨rfl,⟨nd,rfl⟩⟩;refine ⟨_,rfl,?_⟩) | ((with_reducible refine gate_callee (f:=9) rfl ?_);refine goesL_ (some 21) rfl rfl Tryd.func9 (by kernel_rfl) rfl #[.int .i64 a0_0] rfl (by (try simp only [List.map_toArray,List.map_cons,List.map_nil]);first | done | rfl | (simp only [List.length_drop,List.length_take];rfl)) ?_;(with_reducible refine (Y9.calls k a0_0 t139 _ A5.out).mono ?_);rintro e w11 ⟨rfl,hb⟩;refine ⟨_,rfl,?_⟩;have n0_:=Aside0.mk (blk_below (g:=gb133) (o:=.cells #[.int .i64 a0_0,.int .i64 a0_1,.int .i64 a0_2,.string a0_3,.string a0_4,.int .i64 a0_5] 23 (0,0)) (by (with_reducible repeat (first | refine blk_drewN ?_ _ | refine blk_drew ?_ | refine blk_alloc ?_ _));exact BK133.out) hb);have n1_:=Aside0.mk (below_step (by repeat (first | (with_reducible first | exact HB.out | apply below_alloc | apply pw_below_drewN | apply below_drew1 | refine below_set ?_ GE133.out) | exact HB.out)) hb);clear BK133;clear HB;have BK133:=n0_;have HB:=n1_;clear n0_ n1_;(try clear hb);(try clear hb2);(try clear hk);(try clear hi);have hcz12_0:w11.cell? ⟨gb133,0,none⟩=some (.int .i64 a0_0):=(blk_cell BK133.out 0).trans rfl;have hcz12_1:w11.cell? ⟨gb133,1,none⟩=some (.int .i64 a0_1):=(blk_cell BK133.out 1).trans rfl;have hcz12_2:w11.cell? ⟨gb133,2,none⟩=some (.int .i64 a0_2):=(blk_cell BK133.out 2).trans rfl;have hcz12_3:w11.cell? ⟨gb133,3,none⟩=some (.string a0_3):=(blk_cell BK133.out 3).trans rfl;have hcz12_4:w11.cell? ⟨gb133,4,none⟩=some (.string a0_4):=(blk_cell BK133.out 4).trans rfl;have hcz12_5:w11.cell? ⟨gb133,5,none⟩=some (.int .i64 a0_5):=(blk_cell BK133.out 5).trans rfl;have hfz12_0:=blk_frozen BK133.out 0;have hfz12_1:=blk_frozen BK133.out 1;have hfz12_2:=blk_frozen BK133.out 2;have hfz12_3:=blk_frozen BK133.out 3;have hfz12_4:=blk_frozen BK133.out 4;have hfz12_5:=blk_frozen BK133.out 5))
  (try simp only [Act.put,sa_,s0_,ss_])
  go_cut [7] (fun v7 wc=>∃ (kq:Nat) (x7_5:ByteArray),v7 = .string x7_5∧Aside0 (Y8.j0 kq t135 t136 t137 t138 x7_5 a0_0 a0_1 a0_2 a0_3 a0_4 a0_5=some r)∧Aside0 (kq≤k)∧Aside0 (wc.heap[gb133]? = some (.cells #[.int .i64 a0_0,.int .i64 a0_1,.int .i64 a0_2,.string a0_3,.string a0_4,.int .i64 a0_5] 23 (0,0)))∧Aside0 (Below w.heap.size w wc))
  case first =>
   have H:=HC6.out
   clear HC6
   by_cases c13:a0_5=(-1)
   ·rw [if_pos c13] at H
    have c13b0:(a0_5 == (-1))=true:=beq_iff_eq.mpr c13
    have c13b1:(a0_5 != (-1))=false:=bne_eq_false_iff_eq.mpr c13
    clear c13
    (first | rw [c13b0] | (simp only [i64_w,i32_w];rw [c13b0]) | skip)
    have H':=Aside0.mk H
    clear H
    go_wp2
    go_meet
    case rel=>exact ⟨_,(t139),(by first | rfl | (simp;done) | (simp [*];done) | (simp [bne];done)),H',⟨by first | omega | exact Nat.le_refl _⟩,⟨by (with_reducible repeat (first | refine blk_drewN ?_ _ | refine blk_drew ?_ | refine blk_alloc ?_ _));exact BK133.out⟩,⟨by repeat (first | (with_reducible first | exact HB.out | apply below_alloc | apply pw_below_drewN | apply below_drew1 | refine below_set ?_ GE133.out) | exact HB.out)⟩⟩
   ·rw [if_neg c13] at H
    have c13b0:(a0_5 == (-1))=false:=beq_eq_false_iff_ne.mpr c13
    have c13b1:(a0_5 != (-1))=true:=bne_iff_ne.mpr c13
    (first | rw [c13b0] | (simp only [i64_w,i32_w];rw [c13b0]) | skip)
    replace H:=Option.bind_eq_some_iff.mp H
    obtain ⟨t140,A140,H⟩:=H
    replace H:(if 1+t140.size≤9223372036854775807 then (if (1+t140.size)+1≤9223372036854775807 then (if ((1+t140.size)+1)+t139.size≤9223372036854775807 then (Y8.j0 k t135 t136 t137 t138 ((((⟨#[33]⟩:ByteArray) ++ t140) ++ (⟨#[32]⟩:ByteArray)) ++ t139) a0_0 a0_1 a0_2 a0_3 a0_4 a0_5) else (none)) else (none)) else (none))=some r:=H
    have A14:=Aside0.mk A140
    clear A140
    by_cases c15:1+t140.size≤9223372036854775807
    ·rw [if_pos c15] at H
     have c15b0:=eq_true c15
     have c15b1:decide (1+t140.size≤9223372036854775807)=true:=decide_eq_true c15
     try have c15b2:(9223372036854775807<1+t140.size)=False:=eq_false (Nat.not_lt.2 c15)
     by_cases c16:(1+t140.size)+1≤9223372036854775807
     ·rw [if_pos c16] at H
      have c16b0:=eq_true c16
      have c16b1:decide ((1+t140.size)+1≤9223372036854775807)=true:=decide_eq_true c16
      try have c16b2:(9223372036854775807<(1+t140.size)+1)=False:=eq_false (Nat.not_lt.2 c16)
      by_cases c17:((1+t140.size)+1)+t139.size≤9223372036854775807
      ·rw [if_pos c17] at H
       have c17b0:=eq_true c17
       have c17b1:decide (((1+t140.size)+1)+t139.size≤9223372036854775807)=true:=decide_eq_true c17
       try have c17b2:(9223372036854775807<((1+t140.size)+1)+t139.size)=False:=eq_false (Nat.not_lt.2 c17)
       have H':=Aside0.mk H
       clear H
       have hcz18_0:w11.cell? ⟨gb133,0,none⟩=some (.int .i64 a0_0):=(blk_cell BK133.out 0).trans rfl
       have hcz18_1:w11.cell? ⟨gb133,1,none⟩=some (.int .i64 a0_1):=(blk_cell BK133.out 1).trans rfl
       have hcz18_2:w11.cell? ⟨gb133,2,none⟩=some (.int .i64 a0_2):=(blk_cell BK133.out 2).trans rfl
       have hcz18_3:w11.cell? ⟨gb133,3,none⟩=some (.string a0_3):=(blk_cell BK133.out 3).trans rfl
       have hcz18_4:w11.cell? ⟨gb133,4,none⟩=some (.string a0_4):=(blk_cell BK133.out 4).trans rfl
       have hcz18_5:w11.cell? ⟨gb133,5,none⟩=some (.int .i64 a0_5):=(blk_cell BK133.out 5).trans rfl
       have hfz18_0:=blk_frozen BK133.out 0
       have hfz18_1:=blk_frozen BK133.out 1
       have hfz18_2:=blk_frozen BK133.out 2
       have hfz18_3:=blk_frozen BK133.out 3
       have hfz18_4:=blk_frozen BK133.out 4
       have hfz18_5:=blk_frozen BK133.out 5
       go_wp2_with (first | ((with_reducible refine gate_callee (f:=16) rfl ?_);refine goesL_ (some 27) rfl rfl Tryd.func16 (by kernel_rfl) rfl #[.int .i64 a0_5] rfl (by (try simp only [List.map_toArray,List.map_cons,List.map_nil]);first | done | rfl | (simp only [List.length_drop,List.length_take];rfl)) ?_;(with_reducible refine (Y15.calls k a0_5 t140 _ A14.out).mono ?_);rintro e w19 ⟨rfl,hb⟩;refine ⟨_,rfl,?_⟩;have n0_:=Aside0.mk (blk_below (g:=gb133) (o:=.cells #[.int .i64 a0_0,.int .i64 a0_1,.int .i64 a0_2,.string a0_3,.string a0_4,.int .i64 a0_5] 23 (0,0)) (by (with_reducible repeat (first | refine blk_drewN ?_ _ | refine blk_drew ?_ | refine blk_alloc ?_ _));exact BK133.out) hb);have n1_:=Aside0.mk (below_step (by repeat (first | (with_reducible first | exact HB.out | apply below_alloc | apply pw_below_drewN | apply below_drew1 | refine below_set ?_ GE133.out) | exact HB.out)) hb);clear BK133;clear HB;have BK133:=n0_;have HB:=n1_;clear n0_ n1_;(try clear hb);(try clear hb2);(try clear hk);(try clear hi)))
       go_meet
       case rel=>exact ⟨_,((((⟨#[33]⟩:ByteArray) ++ t140) ++ (⟨#[32]⟩:ByteArray)) ++ t139),(by first | rfl | (simp;done) | (simp [*];done) | (simp [bne];done)),H',⟨by first | omega | exact Nat.le_refl _⟩,⟨by (with_reducible repeat (first | refine blk_drewN ?_ _ | refine blk_drew ?_ | refine blk_alloc ?_ _));exact BK133.out⟩,⟨by repeat (first | (with_reducible first | exact HB.out | apply below_alloc | apply pw_below_drewN | apply below_drew1 | refine below_set ?_ GE133.out) | exact HB.out)⟩⟩
      ·rw [if_neg c17] at H
       exact absurd H (by simp)
     ·rw [if_neg c16] at H
      exact absurd H (by simp)
    ·rw [if_neg c15] at H
     exact absurd H (by simp)
  case rest =>
   clear HC6
   try clear c1
   try clear p2
   try clear c3
   try clear c9
   try clear c10
   try clear c11
   try clear c13
   try clear c13b0
   try clear c13b1
   try clear c15
   try clear c15b0
   try clear c15b1
   try clear c15b2
   try clear c16
   try clear c16b0
   try clear c16b1
   try clear c16b2
   try clear c17
   try clear c17b0
   try clear c17b1
   try clear c17b2
   try clear hcz10_0
   try clear hcz10_1
   try clear hcz10_2
   try clear hcz10_3
   try clear hcz10_4
   try clear hcz10_5
   try clear hcz12_0
   try clear hcz12_1
   try clear hcz12_2
   try clear hcz12_3
   try clear hcz12_4
   try clear hcz12_5
   try clear hcz18_0
   try clear hcz18_1
   try clear hcz18_2
   try clear hcz18_3
   try clear hcz18_4
   try clear hcz18_5
   try clear hcz8_0
   try clear hcz8_1
   try clear hcz8_2
   try clear hcz8_3
   try clear hcz8_4
   try clear hcz8_5
   try clear hfz10_0
   try clear hfz10_1
   try clear hfz10_2
   try clear hfz10_3
   try clear hfz10_4
   try clear hfz10_5
   try clear hfz12_0
   try clear hfz12_1
   try clear hfz12_2
   try clear hfz12_3
   try clear hfz12_4
   try clear hfz12_5
   try clear hfz18_0
   try clear hfz18_1
   try clear hfz18_2
   try clear hfz18_3
   try clear hfz18_4
   try clear hfz18_5
   try clear hfz8_0
   try clear hfz8_1
   try clear hfz8_2
   try clear hfz8_3
   try clear hfz8_4
   try clear hfz8_5
   obtain ⟨kq,x7_5,rfl,HA,HJ5,BK133,HB⟩:=hcut
   cases kq with
   | zero=>exact absurd HA.out (by simp [Y8.j0])
   | succ kj5 =>
    have H:=HA.out
    clear HA
    simp only [Y8.j0] at H
    have HC20:=Aside0.mk H
    clear H
    go_upto_if 32 with (fail)
    go_cut [7] (fun v7 wc=>∃ (kq:Nat) (x7_19:ByteArray),v7 = .string x7_19∧Aside0 (Y8.j1 kq t136 t137 t138 x7_19 a0_0 a0_1 a0_2 a0_3 a0_4 a0_5=some r)∧Aside0 (kq≤kj5)∧Aside0 (wc.heap[gb133]? = some (.cells #[.int .i64 a0_0,.int .i64 a0_1,.int .i64 a0_2,.string a0_3,.string a0_4,.int .i64 a0_5] 23 (0,0)))∧Aside0 (Below w.heap.size w wc))
    case first =>
     have H:=HC20.out
     clear HC20
     by_cases c21:t135=true
     ·subst c21
      have H1:(if x7_5.size+1≤9223372036854775807 then ((Y15.f kj5 a0_1).bind fun t141=>(if (x7_5.size+1)+t141.size≤9223372036854775807 then (Y8.j1 kj5 t136 t137 t138 ((x7_5 ++ (⟨#[32]⟩:ByteArray)) ++ t141) a0_0 a0_1 a0_2 a0_3 a0_4 a0_5) else (none))) else (none))=some r:=by rw [if_pos rfl] at H;exact H
      clear H
      have H:=H1
      clear H1
      by_cases c22:x7_5.size+1≤9223372036854775807
      ·rw [if_pos c22] at H
       have c22b0:=eq_true c22
       have c22b1:decide (x7_5.size+1≤9223372036854775807)=true:=decide_eq_true c22
       try have c22b2:(9223372036854775807<x7_5.size+1)=False:=eq_false (Nat.not_lt.2 c22)
       replace H:=Option.bind_eq_some_iff.mp H
       obtain ⟨t141,A230,H⟩:=H
       replace H:(if (x7_5.size+1)+t141.size≤9223372036854775807 then (Y8.j1 kj5 t136 t137 t138 ((x7_5 ++ (⟨#[32]⟩:ByteArray)) ++ t141) a0_0 a0_1 a0_2 a0_3 a0_4 a0_5) else (none))=some r:=H
       have A23:=Aside0.mk A230
       clear A230
       by_cases c24:(x7_5.size+1)+t141.size≤9223372036854775807
       ·rw [if_pos c24] at H
        have c24b0:=eq_true c24
        have c24b1:decide ((x7_5.size+1)+t141.size≤9223372036854775807)=true:=decide_eq_true c24
        try have c24b2:(9223372036854775807<(x7_5.size+1)+t141.size)=False:=eq_false (Nat.not_lt.2 c24)
        have H':=Aside0.mk H
        clear H
        have hcz25_0:wc.cell? ⟨gb133,0,none⟩=some (.int .i64 a0_0):=(blk_cell BK133.out 0).trans rfl
        have hcz25_1:wc.cell? ⟨gb133,1,none⟩=some (.int .i64 a0_1):=(blk_cell BK133.out 1).trans rfl
        have hcz25_2:wc.cell? ⟨gb133,2,none⟩=some (.int .i64 a0_2):=(blk_cell BK133.out 2).trans rfl
        have hcz25_3:wc.cell? ⟨gb133,3,none⟩=some (.string a0_3):=(blk_cell BK133.out 3).trans rfl
        have hcz25_4:wc.cell? ⟨gb133,4,none⟩=some (.string a0_4):=(blk_cell BK133.out 4).trans rfl
        have hcz25_5:wc.cell? ⟨gb133,5,none⟩=some (.int .i64 a0_5):=(blk_cell BK133.out 5).trans rfl
        have hfz25_0:=blk_frozen BK133.out 0
        have hfz25_1:=blk_frozen BK133.out 1
        have hfz25_2:=blk_frozen BK133.out 2
        have hfz25_3:=blk_frozen BK133.out 3
        have hfz25_4:=blk_frozen BK133.out 4
        have hfz25_5:=blk_frozen BK133.out 5
        go_wp2_with (first | ((with_reducible refine gate_callee (f:=16) rfl ?_);refine goesL_ (some 37) rfl rfl Tryd.func16 (by kernel_rfl) rfl #[.int .i64 a0_1] rfl (by (try simp only [List.map_toArray,List.map_cons,List.map_nil]);first | done | rfl | (simp only [List.length_drop,List.length_take];rfl)) ?_;(with_reducible refine (Y15.calls kj5 a0_1 t141 _ A23.out).mono ?_);rintro e w26 ⟨rfl,hb⟩;refine ⟨_,rfl,?_⟩;have n0_:=Aside0.mk (blk_below (g:=gb133) (o:=.cells #[.int .i64 a0_0,.int .i64 a0_1,.int .i64 a0_2,.string a0_3,.string a0_4,.int .i64 a0_5] 23 (0,0)) (by (with_reducible repeat (first | refine blk_drewN ?_ _ | refine blk_drew ?_ | refine blk_alloc ?_ _));exact BK133.out) hb);have n1_:=Aside0.mk (below_step (by repeat (first | (with_reducible first | exact HB.out | apply below_alloc | apply pw_below_drewN | apply below_drew1 | refine below_set ?_ GE133.out) | exact HB.out)) hb);clear BK133;clear HB;have BK133:=n0_;have HB:=n1_;clear n0_ n1_;(try clear hb);(try clear hb2);(try clear hk);(try clear hi)))
        go_meet
        case rel=>exact ⟨_,((x7_5 ++ (⟨#[32]⟩:ByteArray)) ++ t141),(by first | rfl | (simp;done) | (simp [*];done) | (simp [bne];done)),H',⟨by have:=HJ5.out;first | omega | exact Nat.le_refl _⟩,⟨by (with_reducible repeat (first | refine blk_drewN ?_ _ | refine blk_drew ?_ | refine blk_alloc ?_ _));exact BK133.out⟩,⟨by repeat (first | (with_reducible first | exact HB.out | apply below_alloc | apply pw_below_drewN | apply below_drew1 | refine below_set ?_ GE133.out) | exact HB.out)⟩⟩
       ·rw [if_neg c24] at H
        exact absurd H (by simp)
      ·rw [if_neg c22] at H
       exact absurd H (by simp)
     ·replace c21:=Bool.eq_false_iff.mpr c21
      subst c21
      have H1:(Y8.j1 kj5 t136 t137 t138 x7_5 a0_0 a0_1 a0_2 a0_3 a0_4 a0_5)=some r:=by rw [if_neg (show ¬ (false=true) by decide)] at H;exact H
      clear H
      have H:=H1
      clear H1
      have H':=Aside0.mk H
      clear H
      go_wp2
      go_meet
      case rel=>exact ⟨_,(x7_5),(by first | rfl | (simp;done) | (simp [*];done) | (simp [bne];done)),H',⟨by have:=HJ5.out;first | omega | exact Nat.le_refl _⟩,⟨by (with_reducible repeat (first | refine blk_drewN ?_ _ | refine blk_drew ?_ | refine blk_alloc ?_ _));exact BK133.out⟩,⟨by repeat (first | (with_reducible first | exact HB.out | apply below_alloc | apply pw_below_drewN | apply below_drew1 | refine below_set ?_ GE133.out) | exact HB.out)⟩⟩
    case rest =>
     clear HC20
     try clear c1
     try clear c2
     try clear p2
     try clear c3
     try clear c9
     try clear c10
     try clear c11
     try clear c13
     try clear c13b0
     try clear c13b1
     try clear c15
     try clear c15b0
     try clear c15b1
     try clear c15b2
     try clear c16
     try clear c16b0
     try clear c16b1
     try clear c16b2
     try clear c17
     try clear c17b0
     try clear c17b1
     try clear c17b2
     try clear c21
     try clear c22
     try clear c22b0
     try clear c22b1
     try clear c22b2
     try clear c24
     try clear c24b0
     try clear c24b1
     try clear c24b2
     try clear hcz10_0
     try clear hcz10_1
     try clear hcz10_2
     try clear hcz10_3
     try clear hcz10_4
     try clear hcz10_5
     try clear hcz12_0
     try clear hcz12_1
     try clear hcz12_2
     try clear hcz12_3
     try clear hcz12_4
     try clear hcz12_5
     try clear hcz18_0
     try clear hcz18_1
     try clear hcz18_2
     try clear hcz18_3
     try clear hcz18_4
     try clear hcz18_5
     try clear hcz25_0
     try clear hcz25_1
     try clear hcz25_2
     try clear hcz25_3
     try clear hcz25_4
     try clear hcz25_5
     try clear hcz8_0
     try clear hcz8_1
     try clear hcz8_2
     try clear hcz8_3
     try clear hcz8_4
     try clear hcz8_5
     try clear hfz10_0
     try clear hfz10_1
     try clear hfz10_2
     try clear hfz10_3
     try clear hfz10_4
     try clear hfz10_5
     try clear hfz12_0
     try clear hfz12_1
     try clear hfz12_2
     try clear hfz12_3
     try clear hfz12_4
     try clear hfz12_5
     try clear hfz18_0
     try clear hfz18_1
     try clear hfz18_2
     try clear hfz18_3
     try clear hfz18_4
     try clear hfz18_5
     try clear hfz25_0
     try clear hfz25_1
     try clear hfz25_2
     try clear hfz25_3
     try clear hfz25_4
     try clear hfz25_5
     try clear hfz8_0
     try clear hfz8_1
     try clear hfz8_2
     try clear hfz8_3
     try clear hfz8_4
     try clear hfz8_5
     try clear p2
     obtain ⟨kq,x7_19,rfl,HA,HJ19,BK133,HB⟩:=hcut
     cases kq with
     | zero=>exact absurd HA.out (by simp [Y8.j1])
     | succ kj19 =>
      have H:=HA.out
      clear HA
      simp only [Y8.j1] at H
      have HC27:=Aside0.mk H
      clear H
      go_upto_if 39 with (fail)
      go_cut [7] (fun v7 wc=>∃ (kq:Nat) (x7_26:ByteArray),v7 = .string x7_26∧Aside0 (Y8.j2 kq t137 t138 x7_26 a0_0 a0_1 a0_2 a0_3 a0_4 a0_5=some r)∧Aside0 (kq≤kj19)∧Aside0 (wc.heap[gb133]? = some (.cells #[.int .i64 a0_0,.int .i64 a0_1,.int .i64 a0_2,.string a0_3,.string a0_4,.int .i64 a0_5] 23 (0,0)))∧Aside0 (Below w.heap.size w wc))
      case first =>
       have H:=HC27.out
       clear HC27
       by_cases c28:t136=true
       ·subst c28
        have H1:(if x7_19.size+1≤9223372036854775807 then ((Y15.f kj19 a0_2).bind fun t142=>(if (x7_19.size+1)+t142.size≤9223372036854775807 then (Y8.j2 kj19 t137 t138 ((x7_19 ++ (⟨#[32]⟩:ByteArray)) ++ t142) a0_0 a0_1 a0_2 a0_3 a0_4 a0_5) else (none))) else (none))=some r:=by rw [if_pos rfl] at H;exact H
        clear H
        have H:=H1
        clear H1
        by_cases c29:x7_19.size+1≤9223372036854775807
        ·rw [if_pos c29] at H
         have c29b0:=eq_true c29
         have c29b1:decide (x7_19.size+1≤9223372036854775807)=true:=decide_eq_true c29
         try have c29b2:(9223372036854775807<x7_19.size+1)=False:=eq_false (Nat.not_lt.2 c29)
         replace H:=Option.bind_eq_some_iff.mp H
         obtain ⟨t142,A300,H⟩:=H
         replace H:(if (x7_19.size+1)+t142.size≤9223372036854775807 then (Y8.j2 kj19 t137 t138 ((x7_19 ++ (⟨#[32]⟩:ByteArray)) ++ t142) a0_0 a0_1 a0_2 a0_3 a0_4 a0_5) else (none))=some r:=H
         have A30:=Aside0.mk A300
         clear A300
         by_cases c31:(x7_19.size+1)+t142.size≤9223372036854775807
         ·rw [if_pos c31] at H
          have c31b0:=eq_true c31
          have c31b1:decide ((x7_19.size+1)+t142.size≤9223372036854775807)=true:=decide_eq_true c31
          try have c31b2:(9223372036854775807<(x7_19.size+1)+t142.size)=False:=eq_false (Nat.not_lt.2 c31)
          have H':=Aside0.mk H
          clear H
          have hcz32_0:wc.cell? ⟨gb133,0,none⟩=some (.int .i64 a0_0):=(blk_cell BK133.out 0).trans rfl
          have hcz32_1:wc.cell? ⟨gb133,1,none⟩=some (.int .i64 a0_1):=(blk_cell BK133.out 1).trans rfl
          have hcz32_2:wc.cell? ⟨gb133,2,none⟩=some (.int .i64 a0_2):=(blk_cell BK133.out 2).trans rfl
          have hcz32_3:wc.cell? ⟨gb133,3,none⟩=some (.string a0_3):=(blk_cell BK133.out 3).trans rfl
          have hcz32_4:wc.cell? ⟨gb133,4,none⟩=some (.string a0_4):=(blk_cell BK133.out 4).trans rfl
          have hcz32_5:wc.cell? ⟨gb133,5,none⟩=some (.int .i64 a0_5):=(blk_cell BK133.out 5).trans rfl
          have hfz32_0:=blk_frozen BK133.out 0
          have hfz32_1:=blk_frozen BK133.out 1
          have hfz32_2:=blk_frozen BK133.out 2
          have hfz32_3:=blk_frozen BK133.out 3
          have hfz32_4:=blk_frozen BK133.out 4
          have hfz32_5:=blk_frozen BK133.out 5
          go_wp2_with (first | ((with_reducible refine gate_callee (f:=16) rfl ?_);refine goesL_ (some 44) rfl rfl Tryd.func16 (by kernel_rfl) rfl #[.int .i64 a0_2] rfl (by (try simp only [List.map_toArray,List.map_cons,List.map_nil]);first | done | rfl | (simp only [List.length_drop,List.length_take];rfl)) ?_;(with_reducible refine (Y15.calls kj19 a0_2 t142 _ A30.out).mono ?_);rintro e w33 ⟨rfl,hb⟩;refine ⟨_,rfl,?_⟩;have n0_:=Aside0.mk (blk_below (g:=gb133) (o:=.cells #[.int .i64 a0_0,.int .i64 a0_1,.int .i64 a0_2,.string a0_3,.string a0_4,.int .i64 a0_5] 23 (0,0)) (by (with_reducible repeat (first | refine blk_drewN ?_ _ | refine blk_drew ?_ | refine blk_alloc ?_ _));exact BK133.out) hb);have n1_:=Aside0.mk (below_step (by repeat (first | (with_reducible first | exact HB.out | apply below_alloc | apply pw_below_drewN | apply below_drew1 | refine below_set ?_ GE133.out) | exact HB.out)) hb);clear BK133;clear HB;have BK133:=n0_;have HB:=n1_;clear n0_ n1_;(try clear hb);(try clear hb2);(try clear hk);(try clear hi)))
          go_meet
          case rel=>exact ⟨_,((x7_19 ++ (⟨#[32]⟩:ByteArray)) ++ t142),(by first | rfl | (simp;done) | (simp [*];done) | (simp [bne];done)),H',⟨by have:=HJ5.out;have:=HJ19.out;first | omega | exact Nat.le_refl _⟩,⟨by (with_reducible repeat (first | refine blk_drewN ?_ _ | refine blk_drew ?_ | refine blk_alloc ?_ _));exact BK133.out⟩,⟨by repeat (first | (with_reducible first | exact HB.out | apply below_alloc | apply pw_below_drewN | apply below_drew1 | refine below_set ?_ GE133.out) | exact HB.out)⟩⟩
         ·rw [if_neg c31] at H
          exact absurd H (by simp)
        ·rw [if_neg c29] at H
         exact absurd H (by simp)
       ·replace c28:=Bool.eq_false_iff.mpr c28
        subst c28
        have H1:(Y8.j2 kj19 t137 t138 x7_19 a0_0 a0_1 a0_2 a0_3 a0_4 a0_5)=some r:=by rw [if_neg (show ¬ (false=true) by decide)] at H;exact H
        clear H
        have H:=H1
        clear H1
        have H':=Aside0.mk H
        clear H
        go_wp2
        go_meet
        case rel=>exact ⟨_,(x7_19),(by first | rfl | (simp;done) | (simp [*];done) | (simp [bne];done)),H',⟨by have:=HJ5.out;have:=HJ19.out;first | omega | exact Nat.le_refl _⟩,⟨by (with_reducible repeat (first | refine blk_drewN ?_ _ | refine blk_drew ?_ | refine blk_alloc ?_ _));exact BK133.out⟩,⟨by repeat (first | (with_reducible first | exact HB.out | apply below_alloc | apply pw_below_drewN | apply below_drew1 | refine below_set ?_ GE133.out) | exact HB.out)⟩⟩
      case rest =>
       clear HC27
       try clear c1
       try clear c2
       try clear p2
       try clear c3
       try clear c9
       try clear c10
       try clear c11
       try clear c13
       try clear c13b0
       try clear c13b1
       try clear c15
       try clear c15b0
       try clear c15b1
       try clear c15b2
       try clear c16
       try clear c16b0
       try clear c16b1
       try clear c16b2
       try clear c17
       try clear c17b0
       try clear c17b1
       try clear c17b2
       try clear c21
       try clear c22
       try clear c22b0
       try clear c22b1
       try clear c22b2
       try clear c24
       try clear c24b0
       try clear c24b1
       try clear c24b2
       try clear c28
       try clear c29
       try clear c29b0
       try clear c29b1
       try clear c29b2
       try clear c31
       try clear c31b0
       try clear c31b1
       try clear c31b2
       try clear hcz10_0
       try clear hcz10_1
       try clear hcz10_2
       try clear hcz10_3
       try clear hcz10_4
       try clear hcz10_5
       try clear hcz12_0
       try clear hcz12_1
       try clear hcz12_2
       try clear hcz12_3
       try clear hcz12_4
       try clear hcz12_5
       try clear hcz18_0
       try clear hcz18_1
       try clear hcz18_2
       try clear hcz18_3
       try clear hcz18_4
       try clear hcz18_5
       try clear hcz25_0
       try clear hcz25_1
       try clear hcz25_2
       try clear hcz25_3
       try clear hcz25_4
       try clear hcz25_5
       try clear hcz32_0
       try clear hcz32_1
       try clear hcz32_2
       try clear hcz32_3
       try clear hcz32_4
       try clear hcz32_5
       try clear hcz8_0
       try clear hcz8_1
       try clear hcz8_2
       try clear hcz8_3
       try clear hcz8_4
       try clear hcz8_5
       try clear hfz10_0
       try clear hfz10_1
       try clear hfz10_2
       try clear hfz10_3
       try clear hfz10_4
       try clear hfz10_5
       try clear hfz12_0
       try clear hfz12_1
       try clear hfz12_2
       try clear hfz12_3
       try clear hfz12_4
       try clear hfz12_5
       try clear hfz18_0
       try clear hfz18_1
       try clear hfz18_2
       try clear hfz18_3
       try clear hfz18_4
       try clear hfz18_5
       try clear hfz25_0
       try clear hfz25_1
       try clear hfz25_2
       try clear hfz25_3
       try clear hfz25_4
       try clear hfz25_5
       try clear hfz32_0
       try clear hfz32_1
       try clear hfz32_2
       try clear hfz32_3
       try clear hfz32_4
       try clear hfz32_5
       try clear hfz8_0
       try clear hfz8_1
       try clear hfz8_2
       try clear hfz8_3
       try clear hfz8_4
       try clear hfz8_5
       try clear p2
       obtain ⟨kq,x7_26,rfl,HA,HJ26,BK133,HB⟩:=hcut
       cases kq with
       | zero=>exact absurd HA.out (by simp [Y8.j2])
       | succ kj26 =>
        have H:=HA.out
        clear HA
        simp only [Y8.j2] at H
        have HC34:=Aside0.mk H
        clear H
        go_upto_if 46 with (fail)
        go_cut [7] (fun v7 wc=>∃ (kq:Nat) (x7_33:ByteArray),v7 = .string x7_33∧Aside0 (Y8.j3 kq t138 x7_33 a0_0 a0_1 a0_2 a0_3 a0_4 a0_5=some r)∧Aside0 (kq≤kj26)∧Aside0 (wc.heap[gb133]? = some (.cells #[.int .i64 a0_0,.int .i64 a0_1,.int .i64 a0_2,.string a0_3,.string a0_4,.int .i64 a0_5] 23 (0,0)))∧Aside0 (Below w.heap.size w wc))
        case first =>
         have H:=HC34.out
         clear HC34
         by_cases c35:t137=true
         ·subst c35
          have H1:(if x7_26.size+1≤9223372036854775807 then (if (x7_26.size+1)+a0_3.size≤9223372036854775807 then (Y8.j3 kj26 t138 ((x7_26 ++ (⟨#[32]⟩:ByteArray)) ++ a0_3) a0_0 a0_1 a0_2 a0_3 a0_4 a0_5) else (none)) else (none))=some r:=by rw [if_pos rfl] at H;exact H
          clear H
          have H:=H1
          clear H1
          by_cases c36:x7_26.size+1≤9223372036854775807
          ·rw [if_pos c36] at H
           have c36b0:=eq_true c36
           have c36b1:decide (x7_26.size+1≤9223372036854775807)=true:=decide_eq_true c36
           try have c36b2:(9223372036854775807<x7_26.size+1)=False:=eq_false (Nat.not_lt.2 c36)
           by_cases c37:(x7_26.size+1)+a0_3.size≤9223372036854775807
           ·rw [if_pos c37] at H
            have c37b0:=eq_true c37
            have c37b1:decide ((x7_26.size+1)+a0_3.size≤9223372036854775807)=true:=decide_eq_true c37
            try have c37b2:(9223372036854775807<(x7_26.size+1)+a0_3.size)=False:=eq_false (Nat.not_lt.2 c37)
            have H':=Aside0.mk H
            clear H
            have hcz38_0:wc.cell? ⟨gb133,0,none⟩=some (.int .i64 a0_0):=(blk_cell BK133.out 0).trans rfl
            have hcz38_1:wc.cell? ⟨gb133,1,none⟩=some (.int .i64 a0_1):=(blk_cell BK133.out 1).trans rfl
            have hcz38_2:wc.cell? ⟨gb133,2,none⟩=some (.int .i64 a0_2):=(blk_cell BK133.out 2).trans rfl
            have hcz38_3:wc.cell? ⟨gb133,3,none⟩=some (.string a0_3):=(blk_cell BK133.out 3).trans rfl
            have hcz38_4:wc.cell? ⟨gb133,4,none⟩=some (.string a0_4):=(blk_cell BK133.out 4).trans rfl
            have hcz38_5:wc.cell? ⟨gb133,5,none⟩=some (.int .i64 a0_5):=(blk_cell BK133.out 5).trans rfl
            have hfz38_0:=blk_frozen BK133.out 0
            have hfz38_1:=blk_frozen BK133.out 1
            have hfz38_2:=blk_frozen BK133.out 2
            have hfz38_3:=blk_frozen BK133.out 3
            have hfz38_4:=blk_frozen BK133.out 4
            have hfz38_5:=blk_frozen BK133.out 5
            go_wp2
            go_meet
            case rel=>exact ⟨_,((x7_26 ++ (⟨#[32]⟩:ByteArray)) ++ a0_3),(by first | rfl | (simp;done) | (simp [*];done) | (simp [bne];done)),H',⟨by have:=HJ5.out;have:=HJ19.out;have:=HJ26.out;first | omega | exact Nat.le_refl _⟩,⟨by (with_reducible repeat (first | refine blk_drewN ?_ _ | refine blk_drew ?_ | refine blk_alloc ?_ _));exact BK133.out⟩,⟨by repeat (first | (with_reducible first | exact HB.out | apply below_alloc | apply pw_below_drewN | apply below_drew1 | refine below_set ?_ GE133.out) | exact HB.out)⟩⟩
           ·rw [if_neg c37] at H
            exact absurd H (by simp)
          ·rw [if_neg c36] at H
           exact absurd H (by simp)
         ·replace c35:=Bool.eq_false_iff.mpr c35
          subst c35
          have H1:(Y8.j3 kj26 t138 x7_26 a0_0 a0_1 a0_2 a0_3 a0_4 a0_5)=some r:=by rw [if_neg (show ¬ (false=true) by decide)] at H;exact H
          clear H
          have H:=H1
          clear H1
          have H':=Aside0.mk H
          clear H
          go_wp2
          go_meet
          case rel=>exact ⟨_,(x7_26),(by first | rfl | (simp;done) | (simp [*];done) | (simp [bne];done)),H',⟨by have:=HJ5.out;have:=HJ19.out;have:=HJ26.out;first | omega | exact Nat.le_refl _⟩,⟨by (with_reducible repeat (first | refine blk_drewN ?_ _ | refine blk_drew ?_ | refine blk_alloc ?_ _));exact BK133.out⟩,⟨by repeat (first | (with_reducible first | exact HB.out | apply below_alloc | apply pw_below_drewN | apply below_drew1 | refine below_set ?_ GE133.out) | exact HB.out)⟩⟩
        case rest =>
         clear HC34
         try clear c1
         try clear c2
         try clear p2
         try clear c3
         try clear c9
         try clear c10
         try clear c11
         try clear c13
         try clear c13b0
         try clear c13b1
         try clear c15
         try clear c15b0
         try clear c15b1
         try clear c15b2
         try clear c16
         try clear c16b0
         try clear c16b1
         try clear c16b2
         try clear c17
         try clear c17b0
         try clear c17b1
         try clear c17b2
         try clear c21
         try clear c22
         try clear c22b0
         try clear c22b1
         try clear c22b2
         try clear c24
         try clear c24b0
         try clear c24b1
         try clear c24b2
         try clear c28
         try clear c29
         try clear c29b0
         try clear c29b1
         try clear c29b2
         try clear c31
         try clear c31b0
         try clear c31b1
         try clear c31b2
         try clear c35
         try clear c36
         try clear c36b0
         try clear c36b1
         try clear c36b2
         try clear c37
         try clear c37b0
         try clear c37b1
         try clear c37b2
         try clear hcz10_0
         try clear hcz10_1
         try clear hcz10_2
         try clear hcz10_3
         try clear hcz10_4
         try clear hcz10_5
         try clear hcz12_0
         try clear hcz12_1
         try clear hcz12_2
         try clear hcz12_3
         try clear hcz12_4
         try clear hcz12_5
         try clear hcz18_0
         try clear hcz18_1
         try clear hcz18_2
         try clear hcz18_3
         try clear hcz18_4
         try clear hcz18_5
         try clear hcz25_0
         try clear hcz25_1
         try clear hcz25_2
         try clear hcz25_3
         try clear hcz25_4
         try clear hcz25_5
         try clear hcz32_0
         try clear hcz32_1
         try clear hcz32_2
         try clear hcz32_3
         try clear hcz32_4
         try clear hcz32_5
         try clear hcz38_0
         try clear hcz38_1
         try clear hcz38_2
         try clear hcz38_3
         try clear hcz38_4
         try clear hcz38_5
         try clear hcz8_0
         try clear hcz8_1
         try clear hcz8_2
         try clear hcz8_3
         try clear hcz8_4
         try clear hcz8_5
         try clear hfz10_0
         try clear hfz10_1
         try clear hfz10_2
         try clear hfz10_3
         try clear hfz10_4
         try clear hfz10_5
         try clear hfz12_0
         try clear hfz12_1
         try clear hfz12_2
         try clear hfz12_3
         try clear hfz12_4
         try clear hfz12_5
         try clear hfz18_0
         try clear hfz18_1
         try clear hfz18_2
         try clear hfz18_3
         try clear hfz18_4
         try clear hfz18_5
         try clear hfz25_0
         try clear hfz25_1
         try clear hfz25_2
         try clear hfz25_3
         try clear hfz25_4
         try clear hfz25_5
         try clear hfz32_0
         try clear hfz32_1
         try clear hfz32_2
         try clear hfz32_3
         try clear hfz32_4
         try clear hfz32_5
         try clear hfz38_0
         try clear hfz38_1
         try clear hfz38_2
         try clear hfz38_3
         try clear hfz38_4
         try clear hfz38_5
         try clear hfz8_0
         try clear hfz8_1
         try clear hfz8_2
         try clear hfz8_3
         try clear hfz8_4
         try clear hfz8_5
         try clear p2
         obtain ⟨kq,x7_33,rfl,HA,HJ33,BK133,HB⟩:=hcut
         cases kq with
         | zero=>exact absurd HA.out (by simp [Y8.j3])
         | succ kj33 =>
          have H:=HA.out
          clear HA
          simp only [Y8.j3] at H
          by_cases c39:t138=true
          ·subst c39
           have H1:(if x7_33.size+1≤9223372036854775807 then (if (x7_33.size+1)+a0_4.size≤9223372036854775807 then (some ((x7_33 ++ (⟨#[32]⟩:ByteArray)) ++ a0_4)) else (none)) else (none))=some r:=by rw [if_pos rfl] at H;exact H
           clear H
           have H:=H1
           clear H1
           by_cases c40:x7_33.size+1≤9223372036854775807
           ·rw [if_pos c40] at H
            have c40b0:=eq_true c40
            have c40b1:decide (x7_33.size+1≤9223372036854775807)=true:=decide_eq_true c40
            try have c40b2:(9223372036854775807<x7_33.size+1)=False:=eq_false (Nat.not_lt.2 c40)
            by_cases c41:(x7_33.size+1)+a0_4.size≤9223372036854775807
            ·rw [if_pos c41] at H
             have c41b0:=eq_true c41
             have c41b1:decide ((x7_33.size+1)+a0_4.size≤9223372036854775807)=true:=decide_eq_true c41
             try have c41b2:(9223372036854775807<(x7_33.size+1)+a0_4.size)=False:=eq_false (Nat.not_lt.2 c41)
             obtain rfl:=Option.some.inj H
             have hcz42_0:wc.cell? ⟨gb133,0,none⟩=some (.int .i64 a0_0):=(blk_cell BK133.out 0).trans rfl
             have hcz42_1:wc.cell? ⟨gb133,1,none⟩=some (.int .i64 a0_1):=(blk_cell BK133.out 1).trans rfl
             have hcz42_2:wc.cell? ⟨gb133,2,none⟩=some (.int .i64 a0_2):=(blk_cell BK133.out 2).trans rfl
             have hcz42_3:wc.cell? ⟨gb133,3,none⟩=some (.string a0_3):=(blk_cell BK133.out 3).trans rfl
             have hcz42_4:wc.cell? ⟨gb133,4,none⟩=some (.string a0_4):=(blk_cell BK133.out 4).trans rfl
             have hcz42_5:wc.cell? ⟨gb133,5,none⟩=some (.int .i64 a0_5):=(blk_cell BK133.out 5).trans rfl
             have hfz42_0:=blk_frozen BK133.out 0
             have hfz42_1:=blk_frozen BK133.out 1
             have hfz42_2:=blk_frozen BK133.out 2
             have hfz42_3:=blk_frozen BK133.out 3
             have hfz42_4:=blk_frozen BK133.out 4
             have hfz42_5:=blk_frozen BK133.out 5
             go_wp2
             go_ret
             exact ⟨by first | rfl | (simp [errW_none,errW_some] <;> rfl) | (simp [*,errW_none,errW_some] <;> rfl),by repeat (first | (with_reducible first | exact HB.out | apply below_alloc | apply pw_below_drewN | apply below_drew1 | refine below_set ?_ GE133.out) | exact HB.out)⟩
            ·rw [if_neg c41] at H
             exact absurd H (by simp)
           ·rw [if_neg c40] at H
            exact absurd H (by simp)
          ·replace c39:=Bool.eq_false_iff.mpr c39
           subst c39
           have H1:(some x7_33)=some r:=by rw [if_neg (show ¬ (false=true) by decide)] at H;exact H
           clear H
           have H:=H1
           clear H1
           obtain rfl:=Option.some.inj H
           go_wp2
           go_ret
           exact ⟨by first | rfl | (simp [errW_none,errW_some] <;> rfl) | (simp [*,errW_none,errW_some] <;> rfl),by repeat (first | (with_reducible first | exact HB.out | apply below_alloc | apply pw_below_drewN | apply below_drew1 | refine below_set ?_ GE133.out) | exact HB.out)⟩
 ·replace c3:=Bool.eq_false_iff.mpr c3
  subst c3
  have H1:(some (⟨#[]⟩:ByteArray))=some r:=by rw [if_neg (show ¬ (false=true) by decide)] at H;exact H
  clear H
  have H:=H1
  clear H1
  obtain rfl:=Option.some.inj H
  go_enter Tryd.func11,Tryd.ntmps11
  go_wp2_with (first | ((with_reducible refine gate_dst (N:=1) rfl ?_);refine box_event ?hg (N:=1) ?hd (cs:=#[.int .i64 a0_0,.int .i64 a0_1,.int .i64 a0_2,.string a0_3,.string a0_4,.int .i64 a0_5]) (t:=23) ?hr ?_;(case hd=>rfl);(case hg=>rfl);(case hr=>first | (go_simp;done) | (go_simp;rfl));intro gb133 hg w43 hbox hb;have n0_:=Aside0.mk (below_step (by repeat (first | (with_reducible first | exact HB.out | apply below_alloc | apply pw_below_drewN | apply below_drew1) | exact HB.out)) hb);have n1_:=Aside0.mk (hbox);have n2_:=Aside0.mk ((by rw [hg];exact (below_size (by repeat (first | (with_reducible first | exact HB.out | apply below_alloc | apply pw_below_drewN | apply below_drew1) | exact HB.out))):w.heap.size≤gb133));have n3_:=Aside0.mk ((by rw [hg];exact (below_size (by repeat (first | (with_reducible first | exact HB.out | apply below_alloc | apply pw_below_drewN | apply below_drew1) | exact HB.out))):w.heap.size≤gb133));clear HB;have HB:=n0_;have BK133:=n1_;have GW133:=n2_;have GE133:=n3_;clear n0_ n1_ n2_ n3_;clear hb hbox hg;have hcz44_0:w43.cell? ⟨gb133,0,none⟩=some (.int .i64 a0_0):=(blk_cell BK133.out 0).trans rfl;have hcz44_1:w43.cell? ⟨gb133,1,none⟩=some (.int .i64 a0_1):=(blk_cell BK133.out 1).trans rfl;have hcz44_2:w43.cell? ⟨gb133,2,none⟩=some (.int .i64 a0_2):=(blk_cell BK133.out 2).trans rfl;have hcz44_3:w43.cell? ⟨gb133,3,none⟩=some (.string a0_3):=(blk_cell BK133.out 3).trans rfl;have hcz44_4:w43.cell? ⟨gb133,4,none⟩=some (.string a0_4):=(blk_cell BK133.out 4).trans rfl;have hcz44_5:w43.cell? ⟨gb133,5,none⟩=some (.int .i64 a0_5):=(blk_cell BK133.out 5).trans rfl;have hfz44_0:=blk_frozen BK133.out 0;have hfz44_1:=blk_frozen BK133.out 1;have hfz44_2:=blk_frozen BK133.out 2;have hfz44_3:=blk_frozen BK133.out 3;have hfz44_4:=blk_frozen BK133.out 4;have hfz44_5:=blk_frozen BK133.out 5) | ((with_reducible refine gate_callee (f:=15) rfl ?_);refine goesL_ (some 9) rfl rfl Tryd.func15 (by kernel_rfl) rfl #[.agg #[.int .i64 a0_0,.int .i64 a0_1,.int .i64 a0_2,.string a0_3,.string a0_4,.int .i64 a0_5]] rfl (by (try simp only [List.map_toArray,List.map_cons,List.map_nil]);first | done | rfl | (simp only [List.length_drop,List.length_take];rfl)) ?_;(with_reducible refine (Y5.calls k a0_0 a0_1 a0_2 a0_3 a0_4 a0_5 false _ A2.out).mono ?_);rintro e w45 ⟨rfl,hb⟩;refine ⟨_,rfl,?_⟩;have n0_:=Aside0.mk (blk_below (g:=gb133) (o:=.cells #[.int .i64 a0_0,.int .i64 a0_1,.int .i64 a0_2,.string a0_3,.string a0_4,.int .i64 a0_5] 23 (0,0)) (by (with_reducible repeat (first | refine blk_drewN ?_ _ | refine blk_drew ?_ | refine blk_alloc ?_ _));exact BK133.out) hb);have n1_:=Aside0.mk (below_step (by repeat (first | (with_reducible first | exact HB.out | apply below_alloc | apply pw_below_drewN | apply below_drew1 | refine below_set ?_ GE133.out) | exact HB.out)) hb);clear BK133;clear HB;have BK133:=n0_;have HB:=n1_;clear n0_ n1_;(try clear hb);(try clear hb2);(try clear hk);(try clear hi)))
  go_ret
  exact ⟨by first | rfl | (simp [errW_none,errW_some] <;> rfl) | (simp [*,errW_none,errW_some] <;> rfl),by repeat (first | (with_reducible first | exact HB.out | apply below_alloc | apply pw_below_drewN | apply below_drew1 | refine below_set ?_ GE133.out) | exact HB.out)⟩

end Go.Proofs.YtkaojnmgflaldaaDoor.P
