/- Every text: the program's ActRead and the reference's read the same. No condition. (Part 4 of 5: written by programs of this workplace and by hand, merged.) -/
import Derived.Test.YtkaojnmgflaldaaDoorMFnExactActReada
import Derived.Test.YtkaojnmgflaldaaDoorMFnExactActReadb
import Derived.Test.YtkaojnmgflaldaaDoorMFnExactActReadc
import Derived.Lib.OthersKept
import Derived.Test.YtkaojnmgflaldaaDoorMFnExactActReadWWords
import Derived.ChangeArms
import Derived.ChangeSlices
import Derived.WideShapes
import Derived.Test.YtkaojnmgflaldaaDoorMFnExactActReadWMore
import Derived.Laws.BitsLemmas
import Derived.Lib.ItoaNum
import Derived.Lib.SplitLaws
import Derived.Lib.IndexLaws
import Derived.Lib.IndexBytes
import Derived.Lib.ParseIntBTie
set_option linter.unusedVariables false
set_option linter.unusedSimpArgs false

namespace Go.Proofs.YtkaojnmgflaldaaDoor.P
open Go.RowKit Go.Proofs.YtkaojnmgflaldaaDoorW.PrintWords Go.Proofs.YtkaojnmgflaldaaDoorW.PrintLast Go.Proofs.YtkaojnmgflaldaaDoorW.PrintMore
attribute [local go_sem] max2_int min2_int max_two min_two max_three min_three max_four min_four   -- for this text's walks alone
set_option linter.unusedVariables false
set_option linter.unusedSimpArgs false
/-! ### Y4: function 13 -/
def Y4.g (ws:List ByteArray):List UInt8→Nat→Int→Int→Int→ByteArray→ByteArray→Int→Option (Int × Int × Int × ByteArray × ByteArray × Int)
 | [],_,k,a,b,d,e,p=>some (k,a,b,d,e,p)
 | x :: xs,i,k,a,b,d,e,p=>if ((i:Int)+1)<(ws.length:Int) then (if x=65 then ((Y23.f (rdOf ByteArray.empty ws ((i:Int)+1))).bind fun n=>Y4.g ws xs (i+1) k n.1 b d e p) else if x=66 then ((Y23.f (rdOf ByteArray.empty ws ((i:Int)+1))).bind fun n=>Y4.g ws xs (i+1) k a n.1 d e p) else if x=75 then Y4.g ws xs (i+1) k a b (rdOf ByteArray.empty ws ((i:Int)+1)) e p else Y4.g ws xs (i+1) k a b d (rdOf ByteArray.empty ws ((i:Int)+1)) p) else none
def Y4.lp (n k a b:Int) (d e:ByteArray) (p:Int) (ws:List ByteArray):Option (Int × Int × Int × ByteArray × ByteArray × Int):=(Y20.f).bind fun t=>if 0≤n then if n<(t.length:Int) then if (∀ y ∈ ((rd_T50 t n).f1).data.toList,y.toNat<128)∧((rd_T50 t n).f1).size≤1000 then Y4.g ws ((rd_T50 t n).f1).data.toList 0 k a b d e p else none else none else none
theorem wrap_small_ {n:Int} (h0:0≤n) (h1:n<4611686018427387904):IntKind.i64.wrap n=n:=by
 rw [i64_w]
 unfold wrap64
 omega
theorem blk_farO {w:World} {g:Nat} {o:Obj} (h:w.heap[g]? = some o) {p:Addr} (hp:g≠p.block) (u:Value):(w.setCell p u).heap[g]? = some o:=(Below.heap_setCell w p u g hp).trans h
/-- A row of texts, each of its cells: its block is not B and is older than C. -/
def RI_ (w:World) (A:Option Addr) (ws:List ByteArray) (B C:Nat):Prop:=∀ i:Int,0≤i→i<(ws.length:Int)→∃ ad,A=some ad∧ad.block≠B∧ad.block<C∧w.cell? (ad.add i.toNat)=some (.string (rdOf ByteArray.empty ws i))
theorem RI_.to {w w':World} {A ws B C} (h:RI_ w A ws B C) (hc:∀ a:Addr,a.block≠B→a.block<C→w'.cell? a=w.cell? a):RI_ w' A ws B C:=fun i h0 h1=>by
 obtain ⟨ad,e,hB,hC,hx⟩:=h i h0 h1
 exact ⟨ad,e,hB,hC,(hc _ (by rw [add_block];exact hB) (by rw [add_block];exact hC)).trans hx⟩
theorem RI_.of {w:World} {base:Nat} {ok:Nat→Prop} {A:Option Addr} {ws:List ByteArray} {c B:Nat} {cs:Array Value} (h:Kd.Q Kd.string 9 w base ok (.slice A ws.length c) ws) (hb:w.heap[B]? = some (.cells cs 23 (0,0))):RI_ w A ws B w.heap.size:=fun i h0 h1=>by
 obtain ⟨ad,e,hx⟩:=Kd.at_string (Kd.Q_reads' h).2.2 i h0 h1
 subst e
 refine ⟨ad,rfl,Kd.own_blk (Kd.Q_ne h hb (by decide)),?_,hx⟩
 have:=World.block_lt_of_cell? w _ hx
 rwa [add_block] at this
theorem RI_.set {w:World} {A ws B C} (h:RI_ w A ws B C) {j:Nat} (u:Value):RI_ (w.setCell ⟨B,j,none⟩ u) A ws B C:=h.to fun a h1 _=>cell_far (p:=⟨B,j,none⟩) h1 u
theorem RI_.below {w w':World} {A ws B C} (h:RI_ w A ws B C) (hb:Below w.heap.size w w') (hC:C≤w.heap.size):RI_ w' A ws B C:=h.to fun a _ h1=>hb.cell (Nat.lt_of_lt_of_le h1 hC)
theorem RI_.iterAt {w:World} {A ws B gi} (h:RI_ w A ws B gi) (s:ByteArray) (pos:Nat):RI_ (w.iterAt gi s pos) A ws B gi:=h.to fun a _ h1=>by
 have:=Lib.iterAt_other w gi a.block s pos (Nat.ne_of_lt h1)
 simp [World.cell?,this]
theorem RI_.alloc {w:World} {A ws B} (h:RI_ w A ws B w.heap.size) (o:Obj):RI_ (w.alloc o) A ws B w.heap.size:=h.below (below_alloc (Below.refl _ _) _) (Nat.le_refl _)
mutual
def Y4.j0:Nat→ByteArray→ByteArray→Bool→Int→Int→Int→ByteArray→ByteArray→Int→List ByteArray→Option (Int × Int × Int × ByteArray × ByteArray × Int × Bool)
 | 0,_,_,_,_,_,_,_,_,_,_=>none
 | k+1,x0,x6,x27,x223000,x223001,x223002,x223003,x223004,x223005,x227000=>if x27=true then ((Y23.f x6).bind fun bt230=>(if 1≤(x227000.length:Int) then (Y4.j1 k x0 x223000 x223001 x223002 x223003 x223004 bt230.1 (x227000.drop (1:Int).toNat)) else (none))) else (Y4.j1 k x0 x223000 x223001 x223002 x223003 x223004 x223005 x227000)
def Y4.j1:Nat→ByteArray→Int→Int→Int→ByteArray→ByteArray→Int→List ByteArray→Option (Int × Int × Int × ByteArray × ByteArray × Int × Bool)
 | 0,_,_,_,_,_,_,_,_=>none
 | k+1,x0,x223000,x223001,x223002,x223003,x223004,x223005,x227000=>(Y20.f).bind fun t235=>((Y2.f k t235 x227000).bind fun t238=>(if t238<0 then (Y4.j2 k x0 t238 true x223000 x223001 x223002 x223003 x223004 x223005 x227000) else ((Y20.f).bind fun t239=>(if 0≤t238 then (if t238<(t239.length:Int) then (Y4.j2 k x0 t238 ((wrap64 ((x227000.length:Int)-1)) != (((rd_T50 t239 t238).f1).size:Int)) x223000 x223001 x223002 x223003 x223004 x223005 x227000) else (none)) else (none)))))
def Y4.j2:Nat→ByteArray→Int→Bool→Int→Int→Int→ByteArray→ByteArray→Int→List ByteArray→Option (Int × Int × Int × ByteArray × ByteArray × Int × Bool)
 | 0,_,_,_,_,_,_,_,_,_,_=>none
 | k+1,x0,x8,x52,x223000,x223001,x223002,x223003,x223004,x223005,x227000=>if x52=true then (some (0,0,0,(⟨#[]⟩:ByteArray),(⟨#[]⟩:ByteArray),0,false)) else ((Y4.lp x8 (wrap64 (1+x8)) x223001 x223002 x223003 x223004 x223005 x227000).bind fun bt243=>((Y3.f k bt243.1 bt243.2.1 bt243.2.2.1 bt243.2.2.2.1 bt243.2.2.2.2.1 bt243.2.2.2.2.2).bind fun t249=>(if t249=true then ((Y18.f bt243.1 bt243.2.1 bt243.2.2.1 bt243.2.2.2.1 bt243.2.2.2.2.1 bt243.2.2.2.2.2).bind fun t250=>(some (bt243.1,bt243.2.1,bt243.2.2.1,bt243.2.2.2.1,bt243.2.2.2.2.1,bt243.2.2.2.2.2,(t250.toList == x0.toList)))) else (some (bt243.1,bt243.2.1,bt243.2.2.1,bt243.2.2.2.1,bt243.2.2.2.2.1,bt243.2.2.2.2.2,false)))))
end
def Y4.f (k:Nat) (a0:ByteArray):Option (Int × Int × Int × ByteArray × ByteArray × Int × Bool):=(Y38.f a0 (⟨#[32]⟩:ByteArray)).bind fun t223=>(if 0<(t223.length:Int) then ((Y31.f (rdOf ByteArray.empty t223 0) (⟨#[33]⟩:ByteArray)).bind fun bt228=>(if bt228.2=true then (Y4.j0 k a0 bt228.1 (decide ((t223.length:Int)>1)) 0 0 0 (⟨#[]⟩:ByteArray) (⟨#[]⟩:ByteArray) (-1) t223) else (Y4.j0 k a0 bt228.1 false 0 0 0 (⟨#[]⟩:ByteArray) (⟨#[]⟩:ByteArray) (-1) t223))) else (none))
theorem Y4.mono_l:∀ k,(∀ y0 y1 y2 y3 y4 y5 y6 y7 y8 y9,LeO (Y4.j0 k y0 y1 y2 y3 y4 y5 y6 y7 y8 y9) (Y4.j0 (k+1) y0 y1 y2 y3 y4 y5 y6 y7 y8 y9))∧(∀ y0 y1 y2 y3 y4 y5 y6 y7,LeO (Y4.j1 k y0 y1 y2 y3 y4 y5 y6 y7) (Y4.j1 (k+1) y0 y1 y2 y3 y4 y5 y6 y7))∧(∀ y0 y1 y2 y3 y4 y5 y6 y7 y8 y9,LeO (Y4.j2 k y0 y1 y2 y3 y4 y5 y6 y7 y8 y9) (Y4.j2 (k+1) y0 y1 y2 y3 y4 y5 y6 y7 y8 y9))
 | 0=>⟨fun _ _ _ _ _ _ _ _ _ _ r h=>by simp [Y4.j0] at h,fun _ _ _ _ _ _ _ _ r h=>by simp [Y4.j1] at h,fun _ _ _ _ _ _ _ _ _ _ r h=>by simp [Y4.j2] at h⟩
 | k+1=>by
  obtain ⟨ih0,ih1,ih2⟩:=Y4.mono_l k
  refine ⟨?_,?_,?_⟩
  ·intro y0 y1 y2 y3 y4 y5 y6 y7 y8 y9
   unfold Y4.j0
   repeat' first
   | (with_reducible exact ih0 _ _ _ _ _ _ _ _ _ _)
   | (with_reducible exact ih1 _ _ _ _ _ _ _ _)
   | (with_reducible exact ih2 _ _ _ _ _ _ _ _ _ _)
   | (with_reducible exact Y3.mono _ _ _ _ _ _ _)
   | (with_reducible exact Y2.mono _ _ _)
   | (with_reducible exact LeO.refl _)
   | (with_reducible exact LeO.none _)
   | (with_reducible refine LeO.ite ?_ ?_)
   | (with_reducible refine LeO.bind ?_ (fun _=>?_))
   | exact ih0 _ _ _ _ _ _ _ _ _ _
   | exact ih1 _ _ _ _ _ _ _ _
   | exact ih2 _ _ _ _ _ _ _ _ _ _
   | exact Y3.mono _ _ _ _ _ _ _
   | exact Y2.mono _ _ _
   | exact LeO.none _
   | refine LeO.ite ?_ ?_
   | refine LeO.bind ?_ (fun _=>?_)
  ·intro y0 y1 y2 y3 y4 y5 y6 y7
   unfold Y4.j1
   repeat' first
   | (with_reducible exact ih0 _ _ _ _ _ _ _ _ _ _)
   | (with_reducible exact ih1 _ _ _ _ _ _ _ _)
   | (with_reducible exact ih2 _ _ _ _ _ _ _ _ _ _)
   | (with_reducible exact Y3.mono _ _ _ _ _ _ _)
   | (with_reducible exact Y2.mono _ _ _)
   | (with_reducible exact LeO.refl _)
   | (with_reducible exact LeO.none _)
   | (with_reducible refine LeO.ite ?_ ?_)
   | (with_reducible refine LeO.bind ?_ (fun _=>?_))
   | exact ih0 _ _ _ _ _ _ _ _ _ _
   | exact ih1 _ _ _ _ _ _ _ _
   | exact ih2 _ _ _ _ _ _ _ _ _ _
   | exact Y3.mono _ _ _ _ _ _ _
   | exact Y2.mono _ _ _
   | exact LeO.none _
   | refine LeO.ite ?_ ?_
   | refine LeO.bind ?_ (fun _=>?_)
  ·intro y0 y1 y2 y3 y4 y5 y6 y7 y8 y9
   unfold Y4.j2
   repeat' first
   | (with_reducible exact ih0 _ _ _ _ _ _ _ _ _ _)
   | (with_reducible exact ih1 _ _ _ _ _ _ _ _)
   | (with_reducible exact ih2 _ _ _ _ _ _ _ _ _ _)
   | (with_reducible exact Y3.mono _ _ _ _ _ _ _)
   | (with_reducible exact Y2.mono _ _ _)
   | (with_reducible exact LeO.refl _)
   | (with_reducible exact LeO.none _)
   | (with_reducible refine LeO.ite ?_ ?_)
   | (with_reducible refine LeO.bind ?_ (fun _=>?_))
   | exact ih0 _ _ _ _ _ _ _ _ _ _
   | exact ih1 _ _ _ _ _ _ _ _
   | exact ih2 _ _ _ _ _ _ _ _ _ _
   | exact Y3.mono _ _ _ _ _ _ _
   | exact Y2.mono _ _ _
   | exact LeO.none _
   | refine LeO.ite ?_ ?_
   | refine LeO.bind ?_ (fun _=>?_)
theorem Y4.mono:∀ a0 k,LeO (Y4.f k a0) (Y4.f (k+1) a0):=by
 intro a0 k
 obtain ⟨ih0,ih1,ih2⟩:=Y4.mono_l k
 unfold Y4.f
 repeat' first
   | (with_reducible exact ih0 _ _ _ _ _ _ _ _ _ _)
   | (with_reducible exact ih1 _ _ _ _ _ _ _ _)
   | (with_reducible exact ih2 _ _ _ _ _ _ _ _ _ _)
   | (with_reducible exact Y3.mono _ _ _ _ _ _ _)
   | (with_reducible exact Y2.mono _ _ _)
   | (with_reducible exact LeO.refl _)
   | (with_reducible exact LeO.none _)
   | (with_reducible refine LeO.ite ?_ ?_)
   | (with_reducible refine LeO.bind ?_ (fun _=>?_))
   | exact ih0 _ _ _ _ _ _ _ _ _ _
   | exact ih1 _ _ _ _ _ _ _ _
   | exact ih2 _ _ _ _ _ _ _ _ _ _
   | exact Y3.mono _ _ _ _ _ _ _
   | exact Y2.mono _ _ _
   | exact LeO.none _
   | refine LeO.ite ?_ ?_
   | refine LeO.bind ?_ (fun _=>?_)
def Y4.T8:Bool × List (List Nat × List Nat):=(true,[([],[]),([0],[0]),([1],[1]),([2],[2]),([3,2],[2,3]),([4,2],[2,4]),([2,2],[2]),([2],[2]),([6,7,2],[2,6,7]),([8,2],[2,8]),([9,2],[2,9]),([10,2],[2,10]),([5,11,2],[2,5,11]),([2,12],[2,12])])
def Y4.B8:List Nat:=[0,1,3,7,15,31,7,7,199,455,967,1991,4095,8191]
theorem Y4.tab8:rtab .any (opsOf Tryd.f13 8)=Y4.T8:=by kernel_rfl
theorem Y4.bits8:waitsOk Y4.T8.2 Y4.B8=true:=by kernel_rfl
def Y4.T23:Bool × List (List Nat × List Nat):=(true,[([],[]),([],[]),([1],[1]),([2,2],[2]),([3],[3]),([4,3,3],[3,4]),([3],[3]),([5,6,3],[3,5,6]),([3,7],[3,7]),([0,5,0],[0]),([8,9,0,1,2,3,4,5,6,7,8,9],[8])])
def Y4.B23:List Nat:=[0,0,2,6,14,30,14,126,254,63,1023]
theorem Y4.tab23:rtab .any (opsOf Tryd.f13 23)=Y4.T23:=by kernel_rfl
theorem Y4.bits23:waitsOk Y4.T23.2 Y4.B23=true:=by kernel_rfl
abbrev Y4.q0:Array Bool:=#[false,false,false,false,false,false,false,false,false,false,false,false,false,false]
abbrev Y4.q1:Array Bool:=#[true,false,false,false,false,false,false,false,false,false,false,false,false,false]
abbrev Y4.q2:Array Bool:=#[true,true,false,false,false,false,false,false,false,false,false,false,false,false]
abbrev Y4.q3:Array Bool:=#[true,true,true,false,false,false,false,false,false,false,false,false,false,false]
abbrev Y4.q4:Array Bool:=#[true,true,true,true,true,true,true,true,false,false,false,false,false,false]
abbrev Y4.q5:Array Bool:=#[true,true,true,true,true,true,true,true,true,false,false,false,false,false]
abbrev Y4.q6:Array Bool:=#[true,true,true,true,true,true,true,true,true,true,false,false,false,false]
abbrev Y4.q7:Array Bool:=#[true,true,true,true,true,true,true,true,true,true,true,false,false,false]
abbrev Y4.q8:Array Bool:=#[true,true,true,true,true,true,true,true,true,true,true,true,false,false]
abbrev Y4.q9:Array Bool:=#[true,true,true,true,true,true,true,true,true,true,true,true,true,false]
abbrev Y4.q10:Array Bool:=#[true,true,true,true,true,true,true,true,true,true,true,true,true,true]
set_option maxHeartbeats 8000000 in
set_option maxRecDepth 100000 in
theorem Y4.calls (k:Nat) (a0:ByteArray) (r1:Int) (r2:Int) (r3:Int) (r4:ByteArray) (r5:ByteArray) (r6:Int) (r7:Bool) (w:World) (h:Y4.f k a0=some (r1,r2,r3,r4,r5,r6,r7)) (htab_:Tab_ w) :
  Calls Tryd.prog 13 #[.string a0] w fun e w'=>e = .returned (.tuple #[.agg #[.int .i64 r1,.int .i64 r2,.int .i64 r3,.string r4,.string r5,.int .i64 r6],.bool r7])∧Below w.heap.size w w':=by
 have hu23:=Tryd.underlying23
 have HB:=Aside0.mk (Below.refl w.heap.size w)
 have H:((Y38.f a0 (⟨#[32]⟩:ByteArray)).bind fun t223=>(if 0<(t223.length:Int) then ((Y31.f (rdOf ByteArray.empty t223 0) (⟨#[33]⟩:ByteArray)).bind fun bt228=>(if bt228.2=true then (Y4.j0 k a0 bt228.1 (decide ((t223.length:Int)>1)) 0 0 0 (⟨#[]⟩:ByteArray) (⟨#[]⟩:ByteArray) (-1) t223) else (Y4.j0 k a0 bt228.1 false 0 0 0 (⟨#[]⟩:ByteArray) (⟨#[]⟩:ByteArray) (-1) t223))) else (none)))=some (r1,r2,r3,r4,r5,r6,r7):=h
 clear h
 replace H:=Option.bind_eq_some_iff.mp H
 obtain ⟨t223,A20,H⟩:=H
 replace H:(if 0<(t223.length:Int) then ((Y31.f (rdOf ByteArray.empty t223 0) (⟨#[33]⟩:ByteArray)).bind fun bt228=>(if bt228.2=true then (Y4.j0 k a0 bt228.1 (decide ((t223.length:Int)>1)) 0 0 0 (⟨#[]⟩:ByteArray) (⟨#[]⟩:ByteArray) (-1) t223) else (Y4.j0 k a0 bt228.1 false 0 0 0 (⟨#[]⟩:ByteArray) (⟨#[]⟩:ByteArray) (-1) t223))) else (none))=some (r1,r2,r3,r4,r5,r6,r7):=H
 have A2:=Aside0.mk A20
 clear A20
 by_cases c3:0<(t223.length:Int)
 ·rw [if_pos c3] at H
  have c3b0:decide (0<(t223.length:Int))=true:=decide_eq_true c3
  have c3b1:decide (0<t223.length)=true:=decide_eq_true (by omega)
  clear c3
  replace H:=Option.bind_eq_some_iff.mp H
  obtain ⟨⟨t228,t229⟩,A40,H⟩:=H
  replace H:(if t229=true then (Y4.j0 k a0 t228 (decide ((t223.length:Int)>1)) 0 0 0 (⟨#[]⟩:ByteArray) (⟨#[]⟩:ByteArray) (-1) t223) else (Y4.j0 k a0 t228 false 0 0 0 (⟨#[]⟩:ByteArray) (⟨#[]⟩:ByteArray) (-1) t223))=some (r1,r2,r3,r4,r5,r6,r7):=H
  have A4:=Aside0.mk A40
  clear A40
  have HC5:=Aside0.mk H
  clear H
  go_enter Tryd.func13,Tryd.ntmps13
  go_upto_region 4 with (first | ((with_reducible refine gate_dst (N:=2) rfl ?_);(try (refine gate_guard (by rfl) ?_;dsimp only));refine box_event ?hg (N:=2) ?hd (cs:=#[.int .i64 0,.int .i64 0,.int .i64 0,.string (⟨#[]⟩:ByteArray),.string (⟨#[]⟩:ByteArray),.int .i64 0]) (t:=23) ?hr ?_;(case hd=>rfl);(case hg=>rfl);(case hr=>first | (go_simp;done) | (go_simp;rfl));intro gb221 hg w6 hbox hb;have n0_:=Aside0.mk (below_step (by repeat (first | (with_reducible first | exact HB.out | apply below_alloc | apply pw_below_drewN | apply below_drew1) | exact HB.out)) hb);have n1_:=Aside0.mk (hbox);have n2_:=Aside0.mk ((by rw [hg];exact (below_size (by repeat (first | (with_reducible first | exact HB.out | apply below_alloc | apply pw_below_drewN | apply below_drew1) | exact HB.out))):w.heap.size≤gb221));have n3_:=Aside0.mk ((by rw [hg];exact (below_size (by repeat (first | (with_reducible first | exact HB.out | apply below_alloc | apply pw_below_drewN | apply below_drew1) | exact HB.out))):w.heap.size≤gb221));clear HB;have HB:=n0_;have BK221:=n1_;have GW221:=n2_;have GE221:=n3_;clear n0_ n1_ n2_ n3_;clear hb hbox hg) | ((with_reducible refine gate_dst (N:=4) rfl ?_);(try (refine gate_guard (by rfl) ?_;dsimp only));refine box_event ?hg (N:=4) ?hd (cs:=#[.int .i64 0,.int .i64 0,.int .i64 0,.string (⟨#[]⟩:ByteArray),.string (⟨#[]⟩:ByteArray),.int .i64 0]) (t:=23) ?hr ?_;(case hd=>rfl);(case hg=>rfl);(case hr=>first | (go_simp;done) | (go_simp;rfl));intro gb222 hg w7 hbox hb;have n0_:=Aside0.mk (blk_below (g:=gb221) (o:=.cells #[.int .i64 0,.int .i64 0,.int .i64 0,.string (⟨#[]⟩:ByteArray),.string (⟨#[]⟩:ByteArray),.int .i64 0] 23 (0,0)) (by (with_reducible repeat (first | refine blk_drewN ?_ _ | refine blk_drew ?_ | refine blk_alloc ?_ _));exact BK221.out) hb);have n1_:=Aside0.mk (below_step (by repeat (first | (with_reducible first | exact HB.out | apply below_alloc | apply pw_below_drewN | apply below_drew1 | refine below_set ?_ GE221.out) | exact HB.out)) hb);have n2_:=Aside0.mk (hbox);have n3_:=Aside0.mk ((by rw [hg];exact (below_size (by repeat (first | (with_reducible first | exact HB.out | apply below_alloc | apply pw_below_drewN | apply below_drew1 | refine below_set ?_ GE221.out) | exact HB.out))):w.heap.size≤gb222));have n4_:=Aside0.mk ((by rw [hg];exact (below_size (by repeat (first | (with_reducible first | exact HB.out | apply below_alloc | apply pw_below_drewN | apply below_drew1 | refine below_set ?_ GE221.out) | exact HB.out))):w.heap.size≤gb222));have n5_:=Aside0.mk ((by rw [hg];exact Nat.ne_of_lt (blk_lt (g:=gb221) (o:=.cells #[.int .i64 0,.int .i64 0,.int .i64 0,.string (⟨#[]⟩:ByteArray),.string (⟨#[]⟩:ByteArray),.int .i64 0] 23 (0,0)) (by (with_reducible repeat (first | refine blk_drewN ?_ _ | refine blk_drew ?_ | refine blk_alloc ?_ _));exact BK221.out)):gb221≠gb222));have n6_:=Aside0.mk ((by rw [hg];exact Nat.ne_of_gt (blk_lt (g:=gb221) (o:=.cells #[.int .i64 0,.int .i64 0,.int .i64 0,.string (⟨#[]⟩:ByteArray),.string (⟨#[]⟩:ByteArray),.int .i64 0] 23 (0,0)) (by (with_reducible repeat (first | refine blk_drewN ?_ _ | refine blk_drew ?_ | refine blk_alloc ?_ _));exact BK221.out)):gb222≠gb221));clear BK221;clear HB;have BK221:=n0_;have HB:=n1_;have BK222:=n2_;have GW222:=n3_;have GE222:=n4_;have NB221_222:=n5_;have NB222_221:=n6_;clear n0_ n1_ n2_ n3_ n4_ n5_ n6_;clear hb hbox hg;have hnb8:=NB222_221.out;have hnc8:=NB221_222.out;have hcz9_0:w7.cell? ⟨gb222,0,none⟩=some (.int .i64 0):=(blk_cell BK222.out 0).trans rfl;have hcz9_1:w7.cell? ⟨gb222,1,none⟩=some (.int .i64 0):=(blk_cell BK222.out 1).trans rfl;have hcz9_2:w7.cell? ⟨gb222,2,none⟩=some (.int .i64 0):=(blk_cell BK222.out 2).trans rfl;have hcz9_3:w7.cell? ⟨gb222,3,none⟩=some (.string (⟨#[]⟩:ByteArray)):=(blk_cell BK222.out 3).trans rfl;have hcz9_4:w7.cell? ⟨gb222,4,none⟩=some (.string (⟨#[]⟩:ByteArray)):=(blk_cell BK222.out 4).trans rfl;have hcz9_5:w7.cell? ⟨gb222,5,none⟩=some (.int .i64 0):=(blk_cell BK222.out 5).trans rfl;have hfz9_0:=blk_frozen BK222.out 0;have hfz9_1:=blk_frozen BK222.out 1;have hfz9_2:=blk_frozen BK222.out 2;have hfz9_3:=blk_frozen BK222.out 3;have hfz9_4:=blk_frozen BK222.out 4;have hfz9_5:=blk_frozen BK222.out 5) | ((with_reducible refine gate_callee (f:=19) rfl ?_);refine goesL_ (some 14) rfl rfl Tryd.func19 (by kernel_rfl) rfl #[.string a0,.string (⟨#[32]⟩:ByteArray)] rfl (by (try simp only [List.map_toArray,List.map_cons,List.map_nil]);first | done | rfl | (simp only [List.length_drop,List.length_take];rfl)) ?_;(with_reducible refine (Y38.calls a0 (⟨#[32]⟩:ByteArray) t223 _ A2.out (tab_below htab_ (by repeat (first | (with_reducible first | exact HB.out | apply below_alloc | apply pw_below_drewN | apply below_drew1 | refine below_set ?_ GE221.out | refine below_set ?_ GE222.out) | exact HB.out)))).mono ?_);rintro e w10 ⟨v224,rfl,ho0,hb⟩;refine ⟨_,rfl,?_⟩;have n0_:=Aside0.mk (Kd.R_lower ho0 (below_size (by repeat (first | (with_reducible first | exact HB.out | apply below_alloc | apply pw_below_drewN | apply below_drew1 | refine below_set ?_ GE221.out | refine below_set ?_ GE222.out) | exact HB.out))));have n1_:=Aside0.mk (blk_below (g:=gb221) (o:=.cells #[.int .i64 0,.int .i64 0,.int .i64 0,.string (⟨#[]⟩:ByteArray),.string (⟨#[]⟩:ByteArray),.int .i64 0] 23 (0,0)) (by (with_reducible repeat (first | refine blk_drewN ?_ _ | refine blk_drew ?_ | refine blk_alloc ?_ _));refine blk_far ?_ NB221_222.out _;(with_reducible repeat (first | refine blk_drewN ?_ _ | refine blk_drew ?_ | refine blk_alloc ?_ _));refine blk_far ?_ NB221_222.out _;(with_reducible repeat (first | refine blk_drewN ?_ _ | refine blk_drew ?_ | refine blk_alloc ?_ _));refine blk_far ?_ NB221_222.out _;(with_reducible repeat (first | refine blk_drewN ?_ _ | refine blk_drew ?_ | refine blk_alloc ?_ _));refine blk_far ?_ NB221_222.out _;(with_reducible repeat (first | refine blk_drewN ?_ _ | refine blk_drew ?_ | refine blk_alloc ?_ _));refine blk_far ?_ NB221_222.out _;(with_reducible repeat (first | refine blk_drewN ?_ _ | refine blk_drew ?_ | refine blk_alloc ?_ _));refine blk_far ?_ NB221_222.out _;(with_reducible repeat (first | refine blk_drewN ?_ _ | refine blk_drew ?_ | refine blk_alloc ?_ _));exact BK221.out) hb);have n2_:=Aside0.mk (blk_below (g:=gb222) (o:=.cells #[.int .i64 0,.int .i64 0,.int .i64 0,.string (⟨#[]⟩:ByteArray),.string (⟨#[]⟩:ByteArray),.int .i64 (-1)] 23 (0,0)) (by (with_reducible repeat (first | refine blk_drewN ?_ _ | refine blk_drew ?_ | refine blk_alloc ?_ _));refine blk_put (cs:=#[.int .i64 0,.int .i64 0,.int .i64 0,.string (⟨#[]⟩:ByteArray),.string (⟨#[]⟩:ByteArray),.int .i64 0]) ?_ 5 _ rfl;(with_reducible repeat (first | refine blk_drewN ?_ _ | refine blk_drew ?_ | refine blk_alloc ?_ _));refine blk_put (cs:=#[.int .i64 0,.int .i64 0,.int .i64 0,.string (⟨#[]⟩:ByteArray),.string (⟨#[]⟩:ByteArray),.int .i64 0]) ?_ 4 _ rfl;(with_reducible repeat (first | refine blk_drewN ?_ _ | refine blk_drew ?_ | refine blk_alloc ?_ _));refine blk_put (cs:=#[.int .i64 0,.int .i64 0,.int .i64 0,.string (⟨#[]⟩:ByteArray),.string (⟨#[]⟩:ByteArray),.int .i64 0]) ?_ 3 _ rfl;(with_reducible repeat (first | refine blk_drewN ?_ _ | refine blk_drew ?_ | refine blk_alloc ?_ _));refine blk_put (cs:=#[.int .i64 0,.int .i64 0,.int .i64 0,.string (⟨#[]⟩:ByteArray),.string (⟨#[]⟩:ByteArray),.int .i64 0]) ?_ 2 _ rfl;(with_reducible repeat (first | refine blk_drewN ?_ _ | refine blk_drew ?_ | refine blk_alloc ?_ _));refine blk_put (cs:=#[.int .i64 0,.int .i64 0,.int .i64 0,.string (⟨#[]⟩:ByteArray),.string (⟨#[]⟩:ByteArray),.int .i64 0]) ?_ 1 _ rfl;(with_reducible repeat (first | refine blk_drewN ?_ _ | refine blk_drew ?_ | refine blk_alloc ?_ _));refine blk_put (cs:=#[.int .i64 0,.int .i64 0,.int .i64 0,.string (⟨#[]⟩:ByteArray),.string (⟨#[]⟩:ByteArray),.int .i64 0]) ?_ 0 _ rfl;(with_reducible repeat (first | refine blk_drewN ?_ _ | refine blk_drew ?_ | refine blk_alloc ?_ _));exact BK222.out) hb);have n3_:=Aside0.mk (below_step (by repeat (first | (with_reducible first | exact HB.out | apply below_alloc | apply pw_below_drewN | apply below_drew1 | refine below_set ?_ GE221.out | refine below_set ?_ GE222.out) | exact HB.out)) hb);clear BK221;clear BK222;clear HB;have HO225:=n0_;have BK221:=n1_;have BK222:=n2_;have HB:=n3_;clear n0_ n1_ n2_ n3_;(try clear hb);(try clear hb2);(try clear hk);(try clear hi);(try clear ho0)) | ((with_reducible refine gate_dst (N:=5) rfl ?_);(try (refine gate_guard (by rfl) ?_;dsimp only));refine box_event ?hg (N:=5) ?hd (cs:=#[.slice none 0 0]) (t:=29) ?hr ?_;(case hd=>rfl);(case hg=>rfl);(case hr=>first | (go_simp;done) | (go_simp;rfl));intro gb226 hg w11 hbox hb;have n0_:=Aside0.mk (Kd.R_below (by (with_reducible repeat (first | apply Kd.R_alloc | apply Kd.R_drewN | apply Kd.R_drew));exact HO225.out) hb);have n1_:=Aside0.mk (blk_below (g:=gb221) (o:=.cells #[.int .i64 0,.int .i64 0,.int .i64 0,.string (⟨#[]⟩:ByteArray),.string (⟨#[]⟩:ByteArray),.int .i64 0] 23 (0,0)) (by (with_reducible repeat (first | refine blk_drewN ?_ _ | refine blk_drew ?_ | refine blk_alloc ?_ _));exact BK221.out) hb);have n2_:=Aside0.mk (blk_below (g:=gb222) (o:=.cells #[.int .i64 0,.int .i64 0,.int .i64 0,.string (⟨#[]⟩:ByteArray),.string (⟨#[]⟩:ByteArray),.int .i64 (-1)] 23 (0,0)) (by (with_reducible repeat (first | refine blk_drewN ?_ _ | refine blk_drew ?_ | refine blk_alloc ?_ _));exact BK222.out) hb);have n3_:=Aside0.mk (below_step (by repeat (first | (with_reducible first | exact HB.out | apply below_alloc | apply pw_below_drewN | apply below_drew1 | refine below_set ?_ GE221.out | refine below_set ?_ GE222.out) | exact HB.out)) hb);have n4_:=Aside0.mk (hbox);have n5_:=Aside0.mk ((by rw [hg];exact (below_size (by repeat (first | (with_reducible first | exact HB.out | apply below_alloc | apply pw_below_drewN | apply below_drew1 | refine below_set ?_ GE221.out | refine below_set ?_ GE222.out) | exact HB.out))):w.heap.size≤gb226));have n6_:=Aside0.mk ((by rw [hg];exact (below_size (by repeat (first | (with_reducible first | exact HB.out | apply below_alloc | apply pw_below_drewN | apply below_drew1 | refine below_set ?_ GE221.out | refine below_set ?_ GE222.out) | exact HB.out))):w.heap.size≤gb226));have n7_:=Aside0.mk ((by rw [hg];exact Nat.ne_of_lt (blk_lt (g:=gb221) (o:=.cells #[.int .i64 0,.int .i64 0,.int .i64 0,.string (⟨#[]⟩:ByteArray),.string (⟨#[]⟩:ByteArray),.int .i64 0] 23 (0,0)) (by (with_reducible repeat (first | refine blk_drewN ?_ _ | refine blk_drew ?_ | refine blk_alloc ?_ _));exact BK221.out)):gb221≠gb226));have n8_:=Aside0.mk ((by rw [hg];exact Nat.ne_of_gt (blk_lt (g:=gb221) (o:=.cells #[.int .i64 0,.int .i64 0,.int .i64 0,.string (⟨#[]⟩:ByteArray),.string (⟨#[]⟩:ByteArray),.int .i64 0] 23 (0,0)) (by (with_reducible repeat (first | refine blk_drewN ?_ _ | refine blk_drew ?_ | refine blk_alloc ?_ _));exact BK221.out)):gb226≠gb221));have n9_:=Aside0.mk ((by rw [hg];exact Nat.ne_of_lt (blk_lt (g:=gb222) (o:=.cells #[.int .i64 0,.int .i64 0,.int .i64 0,.string (⟨#[]⟩:ByteArray),.string (⟨#[]⟩:ByteArray),.int .i64 (-1)] 23 (0,0)) (by (with_reducible repeat (first | refine blk_drewN ?_ _ | refine blk_drew ?_ | refine blk_alloc ?_ _));exact BK222.out)):gb222≠gb226));have n10_:=Aside0.mk ((by rw [hg];exact Nat.ne_of_gt (blk_lt (g:=gb222) (o:=.cells #[.int .i64 0,.int .i64 0,.int .i64 0,.string (⟨#[]⟩:ByteArray),.string (⟨#[]⟩:ByteArray),.int .i64 (-1)] 23 (0,0)) (by (with_reducible repeat (first | refine blk_drewN ?_ _ | refine blk_drew ?_ | refine blk_alloc ?_ _));exact BK222.out)):gb226≠gb222));clear HO225;clear BK221;clear BK222;clear HB;have HO225:=n0_;have BK221:=n1_;have BK222:=n2_;have HB:=n3_;have BK226:=n4_;have GW226:=n5_;have GE226:=n6_;have NB221_226:=n7_;have NB226_221:=n8_;have NB222_226:=n9_;have NB226_222:=n10_;clear n0_ n1_ n2_ n3_ n4_ n5_ n6_ n7_ n8_ n9_ n10_;clear hb hbox hg;obtain ⟨Ao12,co12,eo12⟩:=Kd.R_slice HO225.out;subst eo12;have hnb13:=NB226_221.out;have hnc13:=NB221_226.out;have hnb14:=NB226_222.out;have hnc14:=NB222_226.out;have hcz15_0:w11.cell? ⟨gb226,0,none⟩=some (.slice none 0 0):=(blk_cell BK226.out 0).trans rfl;have hfz15_0:=blk_frozen BK226.out 0;have p227:0≤(0:Int):=(by omega);have q227:0<(t223.length:Int):=of_decide_eq_true (by first | (with_reducible assumption) | assumption);obtain ⟨ad227,e227,hx227_0⟩:=Kd.at_string (Kd.R_reads' HO225.out).2.2 0 p227 q227;cases e227;have qi227:(0<t223.length)=True:=eq_true (by omega);(try rw [show ((0:Int)).toNat=0 from rfl] at hx227_0);(try rw [Addr.add_zero'] at hx227_0);have hn227_0:ad227.block≠gb226:=Kd.own_blk (Kd.R_ne HO225.out BK226.out (by decide));replace hx227_0:=(cell_far (p:=⟨gb226,0,none⟩) (by first | (rw [add_block];exact hn227_0) | (show (Addr.add _ _).block≠_;rw [add_block];exact hn227_0) | exact hn227_0) (.slice (some ad227) t223.length co12)).trans hx227_0;clear hn227_0;replace p227:=eq_true p227;replace q227:=eq_true q227) | ((with_reducible refine gate_callee (f:=20) rfl ?_);refine goesL_ (some 19) rfl rfl Tryd.func20 (by kernel_rfl) rfl #[.string (rdOf ByteArray.empty t223 0),.string (⟨#[33]⟩:ByteArray)] rfl (by (try simp only [List.map_toArray,List.map_cons,List.map_nil]);first | done | rfl | (simp only [List.length_drop,List.length_take];rfl)) ?_;(with_reducible refine (Y31.calls (rdOf ByteArray.empty t223 0) (⟨#[33]⟩:ByteArray) t228 t229 _ A4.out).mono ?_);rintro e w' ⟨rfl,⟨nd,rfl⟩⟩;refine ⟨_,rfl,?_⟩))
  (try simp only [Act.put,sa_,s0_,ss_])
  go_cut [27] (fun v27 wc=>∃ (kq:Nat) (x27_4:Bool),v27 = .bool x27_4∧Aside0 (Y4.j0 kq a0 t228 x27_4 0 0 0 (⟨#[]⟩:ByteArray) (⟨#[]⟩:ByteArray) (-1) t223=some (r1,r2,r3,r4,r5,r6,r7))∧Aside0 (kq≤k)∧Aside0 (Kd.Q Kd.string 9 wc w.heap.size (fun _=>True) (.slice (some ad227) t223.length co12) t223)∧Aside0 (wc.heap[gb221]? = some (.cells #[.int .i64 0,.int .i64 0,.int .i64 0,.string (⟨#[]⟩:ByteArray),.string (⟨#[]⟩:ByteArray),.int .i64 0] 23 (0,0)))∧Aside0 (wc.heap[gb222]? = some (.cells #[.int .i64 0,.int .i64 0,.int .i64 0,.string (⟨#[]⟩:ByteArray),.string (⟨#[]⟩:ByteArray),.int .i64 (-1)] 23 (0,0)))∧Aside0 (wc.heap[gb226]? = some (.cells #[(.slice (some ad227) t223.length co12)] 29 (0,0)))∧Aside0 (Below w.heap.size w wc))
  case first =>
   have H:=HC5.out
   clear HC5
   by_cases c16:t229=true
   ·subst c16
    have H1:(Y4.j0 k a0 t228 (decide ((t223.length:Int)>1)) 0 0 0 (⟨#[]⟩:ByteArray) (⟨#[]⟩:ByteArray) (-1) t223)=some (r1,r2,r3,r4,r5,r6,r7):=by rw [if_pos rfl] at H;exact H
    clear H
    have H:=H1
    clear H1
    have H':=Aside0.mk H
    clear H
    have hnb17:=NB226_221.out
    have hnc17:=NB221_226.out
    have hnb18:=NB226_222.out
    have hnc18:=NB222_226.out
    have hcz19_0:w11.cell? ⟨gb226,0,none⟩=some (.slice none 0 0):=(blk_cell BK226.out 0).trans rfl
    have hfz19_0:=blk_frozen BK226.out 0
    go_wp2
    go_meet
    case rel=>exact ⟨_,(decide ((t223.length:Int)>1)),(by first | rfl | (simp;done) | (simp [*];done) | (simp [bne];done)),H',⟨by first | omega | exact Nat.le_refl _⟩,⟨Kd.Q_of_R (by (with_reducible repeat (first | apply Kd.R_alloc | apply Kd.R_drewN | apply Kd.R_drew));exact Kd.R_mono (Kd.R_far (p:=⟨gb226,0,none⟩) (Kd.R_types HO225.out BK226.out (by decide)) (fun _ hk=>hk.2) (.slice (some ad227) t223.length co12)) (fun _ hk=>trivial))⟩,⟨by (with_reducible repeat (first | refine blk_drewN ?_ _ | refine blk_drew ?_ | refine blk_alloc ?_ _));refine blk_far ?_ NB221_226.out _;(with_reducible repeat (first | refine blk_drewN ?_ _ | refine blk_drew ?_ | refine blk_alloc ?_ _));exact BK221.out⟩,⟨by (with_reducible repeat (first | refine blk_drewN ?_ _ | refine blk_drew ?_ | refine blk_alloc ?_ _));refine blk_far ?_ NB222_226.out _;(with_reducible repeat (first | refine blk_drewN ?_ _ | refine blk_drew ?_ | refine blk_alloc ?_ _));exact BK222.out⟩,⟨by (with_reducible repeat (first | refine blk_drewN ?_ _ | refine blk_drew ?_ | refine blk_alloc ?_ _));refine blk_put (cs:=#[.slice none 0 0]) ?_ 0 _ rfl;(with_reducible repeat (first | refine blk_drewN ?_ _ | refine blk_drew ?_ | refine blk_alloc ?_ _));exact BK226.out⟩,⟨by repeat (first | (with_reducible first | exact HB.out | apply below_alloc | apply pw_below_drewN | apply below_drew1 | refine below_set ?_ GE221.out | refine below_set ?_ GE222.out | refine below_set ?_ GE226.out) | exact HB.out)⟩⟩
   ·replace c16:=Bool.eq_false_iff.mpr c16
    subst c16
    have H1:(Y4.j0 k a0 t228 false 0 0 0 (⟨#[]⟩:ByteArray) (⟨#[]⟩:ByteArray) (-1) t223)=some (r1,r2,r3,r4,r5,r6,r7):=by rw [if_neg (show ¬ (false=true) by decide)] at H;exact H
    clear H
    have H:=H1
    clear H1
    have H':=Aside0.mk H
    clear H
    go_wp2
    go_meet
    case rel=>exact ⟨_,(false),(by first | rfl | (simp;done) | (simp [*];done) | (simp [bne];done)),H',⟨by first | omega | exact Nat.le_refl _⟩,⟨Kd.Q_of_R (by (with_reducible repeat (first | apply Kd.R_alloc | apply Kd.R_drewN | apply Kd.R_drew));exact Kd.R_mono (Kd.R_far (p:=⟨gb226,0,none⟩) (Kd.R_types HO225.out BK226.out (by decide)) (fun _ hk=>hk.2) (.slice (some ad227) t223.length co12)) (fun _ hk=>trivial))⟩,⟨by (with_reducible repeat (first | refine blk_drewN ?_ _ | refine blk_drew ?_ | refine blk_alloc ?_ _));refine blk_far ?_ NB221_226.out _;(with_reducible repeat (first | refine blk_drewN ?_ _ | refine blk_drew ?_ | refine blk_alloc ?_ _));exact BK221.out⟩,⟨by (with_reducible repeat (first | refine blk_drewN ?_ _ | refine blk_drew ?_ | refine blk_alloc ?_ _));refine blk_far ?_ NB222_226.out _;(with_reducible repeat (first | refine blk_drewN ?_ _ | refine blk_drew ?_ | refine blk_alloc ?_ _));exact BK222.out⟩,⟨by (with_reducible repeat (first | refine blk_drewN ?_ _ | refine blk_drew ?_ | refine blk_alloc ?_ _));refine blk_put (cs:=#[.slice none 0 0]) ?_ 0 _ rfl;(with_reducible repeat (first | refine blk_drewN ?_ _ | refine blk_drew ?_ | refine blk_alloc ?_ _));exact BK226.out⟩,⟨by repeat (first | (with_reducible first | exact HB.out | apply below_alloc | apply pw_below_drewN | apply below_drew1 | refine below_set ?_ GE221.out | refine below_set ?_ GE222.out | refine below_set ?_ GE226.out) | exact HB.out)⟩⟩
  case rest =>
   clear HC5
   try clear c1
   try clear c2
   try clear p2
   try clear q2
   try clear hx2
   try clear qi2
   try clear c3
   try clear c3b0
   try clear c3b1
   try clear c8
   try clear c13
   try clear c14
   try clear c16
   try clear c17
   try clear c18
   try clear c19
   try clear hcz15_0
   try clear hcz19_0
   try clear hcz9_0
   try clear hcz9_1
   try clear hcz9_2
   try clear hcz9_3
   try clear hcz9_4
   try clear hcz9_5
   try clear hfz15_0
   try clear hfz19_0
   try clear hfz9_0
   try clear hfz9_1
   try clear hfz9_2
   try clear hfz9_3
   try clear hfz9_4
   try clear hfz9_5
   try clear hx227_0
   try clear p227
   try clear q227
   obtain ⟨kq,x27_4,rfl,HA,HJ4,HO_227000,BK221,BK222,BK226,HB⟩:=hcut
   cases kq with
   | zero=>exact absurd HA.out (by simp [Y4.j0])
   | succ kj4 =>
    have H:=HA.out
    clear HA
    simp only [Y4.j0] at H
    have HC20:=Aside0.mk H
    clear H
    go_upto_if 27 with (fail)
    go_cut [] (fun wc=>∃ (kq:Nat) (x223005_19:Int) (x227000_19:List ByteArray) (u227000:Value),Aside0 (Y4.j1 kq a0 0 0 0 (⟨#[]⟩:ByteArray) (⟨#[]⟩:ByteArray) x223005_19 x227000_19=some (r1,r2,r3,r4,r5,r6,r7))∧Aside0 (kq≤kj4)∧Aside0 (Kd.Q Kd.string 9 wc w.heap.size (fun _=>True) u227000 x227000_19)∧Aside0 (wc.heap[gb221]? = some (.cells #[.int .i64 0,.int .i64 0,.int .i64 0,.string (⟨#[]⟩:ByteArray),.string (⟨#[]⟩:ByteArray),.int .i64 0] 23 (0,0)))∧Aside0 (wc.heap[gb222]? = some (.cells #[.int .i64 0,.int .i64 0,.int .i64 0,.string (⟨#[]⟩:ByteArray),.string (⟨#[]⟩:ByteArray),.int .i64 x223005_19] 23 (0,0)))∧Aside0 (wc.heap[gb226]? = some (.cells #[u227000] 29 (0,0)))∧Aside0 (Below w.heap.size w wc))
    case first =>
     have H:=HC20.out
     clear HC20
     by_cases c21:x27_4=true
     ·subst c21
      have H1:((Y23.f t228).bind fun bt230=>(if 1≤(t223.length:Int) then (Y4.j1 kj4 a0 0 0 0 (⟨#[]⟩:ByteArray) (⟨#[]⟩:ByteArray) bt230.1 (t223.drop (1:Int).toNat)) else (none)))=some (r1,r2,r3,r4,r5,r6,r7):=by rw [if_pos rfl] at H;exact H
      clear H
      have H:=H1
      clear H1
      replace H:=Option.bind_eq_some_iff.mp H
      obtain ⟨⟨t230,t231⟩,A220,H⟩:=H
      replace H:(if 1≤(t223.length:Int) then (Y4.j1 kj4 a0 0 0 0 (⟨#[]⟩:ByteArray) (⟨#[]⟩:ByteArray) t230 (t223.drop (1:Int).toNat)) else (none))=some (r1,r2,r3,r4,r5,r6,r7):=H
      have A22:=Aside0.mk A220
      clear A220
      by_cases c23:1≤(t223.length:Int)
      ·rw [if_pos c23] at H
       have c23b0:=eq_true c23
       have c23b1:decide (1≤(t223.length:Int))=true:=decide_eq_true c23
       clear c23
       obtain ⟨y232,hy232⟩:∃ y_:List ByteArray,y_=(t223.drop (1:Int).toNat):=⟨_,rfl⟩
       replace H:(Y4.j1 kj4 a0 0 0 0 (⟨#[]⟩:ByteArray) (⟨#[]⟩:ByteArray) t230 y232)=some (r1,r2,r3,r4,r5,r6,r7):=by first | (rw [hy232];with_reducible exact H) | (have H2_:=(Option.bind_some _ _).symm.trans H;rw [hy232];with_reducible exact H2_) | (have H2_:=(Option.bind_some _ _).symm.trans H;with_reducible exact H2_) | with_reducible exact H | (rw [hy232];exact H) | exact H
       have Ny232:=Aside0.mk hy232
       clear hy232
       have H':=Aside0.mk H
       clear H
       go_wp2_with (first | ((with_reducible refine gate_callee (f:=21) rfl ?_);refine goesL_ (some 30) rfl rfl Tryd.func21 (by kernel_rfl) rfl #[.string t228] rfl (by (try simp only [List.map_toArray,List.map_cons,List.map_nil]);first | done | rfl | (simp only [List.length_drop,List.length_take];rfl)) ?_;(with_reducible refine (Y23.calls t228 t230 t231 _ A22.out (tab_below htab_ (by repeat (first | (with_reducible first | exact HB.out | apply below_alloc | apply pw_below_drewN | apply below_drew1 | refine below_set ?_ GE221.out | refine below_set ?_ GE222.out | refine below_set ?_ GE226.out) | exact HB.out)))).mono ?_);rintro e w24 ⟨rfl,hb⟩;refine ⟨_,rfl,?_⟩;have n0_:=Aside0.mk (Kd.Q_below (by (with_reducible repeat (first | apply Kd.Q_alloc | apply Kd.Q_drewN | apply Kd.Q_drew));exact HO_227000.out) hb);have n1_:=Aside0.mk (blk_below (g:=gb221) (o:=.cells #[.int .i64 0,.int .i64 0,.int .i64 0,.string (⟨#[]⟩:ByteArray),.string (⟨#[]⟩:ByteArray),.int .i64 0] 23 (0,0)) (by (with_reducible repeat (first | refine blk_drewN ?_ _ | refine blk_drew ?_ | refine blk_alloc ?_ _));exact BK221.out) hb);have n2_:=Aside0.mk (blk_below (g:=gb222) (o:=.cells #[.int .i64 0,.int .i64 0,.int .i64 0,.string (⟨#[]⟩:ByteArray),.string (⟨#[]⟩:ByteArray),.int .i64 (-1)] 23 (0,0)) (by (with_reducible repeat (first | refine blk_drewN ?_ _ | refine blk_drew ?_ | refine blk_alloc ?_ _));exact BK222.out) hb);have n3_:=Aside0.mk (blk_below (g:=gb226) (o:=.cells #[.slice (some ad227) t223.length co12] 29 (0,0)) (by (with_reducible repeat (first | refine blk_drewN ?_ _ | refine blk_drew ?_ | refine blk_alloc ?_ _));exact BK226.out) hb);have n4_:=Aside0.mk (below_step (by repeat (first | (with_reducible first | exact HB.out | apply below_alloc | apply pw_below_drewN | apply below_drew1 | refine below_set ?_ GE221.out | refine below_set ?_ GE222.out | refine below_set ?_ GE226.out) | exact HB.out)) hb);clear HO_227000;clear BK221;clear BK222;clear BK226;clear HB;have HO_227000:=n0_;have BK221:=n1_;have BK222:=n2_;have BK226:=n3_;have HB:=n4_;clear n0_ n1_ n2_ n3_ n4_;(try clear hb);(try clear hb2);(try clear hk);(try clear hi);have hnb25:=NB222_221.out;have hnc25:=NB221_222.out;have hnb26:=NB222_226.out;have hnc26:=NB226_222.out;have hcz27_0:w24.cell? ⟨gb222,0,none⟩=some (.int .i64 0):=(blk_cell BK222.out 0).trans rfl;have hcz27_1:w24.cell? ⟨gb222,1,none⟩=some (.int .i64 0):=(blk_cell BK222.out 1).trans rfl;have hcz27_2:w24.cell? ⟨gb222,2,none⟩=some (.int .i64 0):=(blk_cell BK222.out 2).trans rfl;have hcz27_3:w24.cell? ⟨gb222,3,none⟩=some (.string (⟨#[]⟩:ByteArray)):=(blk_cell BK222.out 3).trans rfl;have hcz27_4:w24.cell? ⟨gb222,4,none⟩=some (.string (⟨#[]⟩:ByteArray)):=(blk_cell BK222.out 4).trans rfl;have hcz27_5:w24.cell? ⟨gb222,5,none⟩=some (.int .i64 (-1)):=(blk_cell BK222.out 5).trans rfl;have hfz27_0:=blk_frozen BK222.out 0;have hfz27_1:=blk_frozen BK222.out 1;have hfz27_2:=blk_frozen BK222.out 2;have hfz27_3:=blk_frozen BK222.out 3;have hfz27_4:=blk_frozen BK222.out 4;have hfz27_5:=blk_frozen BK222.out 5) | ((with_reducible refine gate_store (t:=2) (p:=33) rfl ?_);refine store_event (t:=2) (p:=33) (v:=?vo_w28) (w1:=(w24.setCell ⟨gb222,5,none⟩ (.int .i64 t230))) ?hg ?ho ?hn ?hr ?_;(case ho=>rfl);(case hg=>rfl);(case hn=>rfl);(case hr=>first | (go_simp;done) | (go_simp;rfl));intro w28 hw;have n0_:Aside0 (Kd.Q Kd.string 9 w28 w.heap.size (fun _=>True) (.slice (some ad227) t223.length co12) t223):=⟨(by rw [hw];exact (by (with_reducible repeat (first | apply Kd.Q_alloc | apply Kd.Q_drewN | apply Kd.Q_drew));exact Kd.Q_mono (Kd.Q_far (p:=⟨gb222,5,none⟩) (Kd.Q_types HO_227000.out BK222.out (by decide)) (fun _ hk=>hk.2) (.int .i64 t230)) (fun _ hk=>trivial)))⟩;have n1_:Aside0 (w28.heap[gb221]? = some (.cells #[.int .i64 0,.int .i64 0,.int .i64 0,.string (⟨#[]⟩:ByteArray),.string (⟨#[]⟩:ByteArray),.int .i64 0] 23 (0,0))):=⟨(by rw [hw];exact (by (with_reducible repeat (first | refine blk_drewN ?_ _ | refine blk_drew ?_ | refine blk_alloc ?_ _));refine blk_far ?_ NB221_222.out _;(with_reducible repeat (first | refine blk_drewN ?_ _ | refine blk_drew ?_ | refine blk_alloc ?_ _));exact BK221.out))⟩;have n2_:Aside0 (w28.heap[gb222]? = some (.cells #[.int .i64 0,.int .i64 0,.int .i64 0,.string (⟨#[]⟩:ByteArray),.string (⟨#[]⟩:ByteArray),.int .i64 t230] 23 (0,0))):=⟨(by rw [hw];exact (by (with_reducible repeat (first | refine blk_drewN ?_ _ | refine blk_drew ?_ | refine blk_alloc ?_ _));refine blk_put (cs:=#[.int .i64 0,.int .i64 0,.int .i64 0,.string (⟨#[]⟩:ByteArray),.string (⟨#[]⟩:ByteArray),.int .i64 (-1)]) ?_ 5 _ rfl;(with_reducible repeat (first | refine blk_drewN ?_ _ | refine blk_drew ?_ | refine blk_alloc ?_ _));exact BK222.out))⟩;have n3_:Aside0 (w28.heap[gb226]? = some (.cells #[.slice (some ad227) t223.length co12] 29 (0,0))):=⟨(by rw [hw];exact (by (with_reducible repeat (first | refine blk_drewN ?_ _ | refine blk_drew ?_ | refine blk_alloc ?_ _));refine blk_far ?_ NB226_222.out _;(with_reducible repeat (first | refine blk_drewN ?_ _ | refine blk_drew ?_ | refine blk_alloc ?_ _));exact BK226.out))⟩;have n4_:Aside0 (Below w.heap.size w w28):=⟨(by rw [hw];exact (by repeat (first | (with_reducible first | exact HB.out | apply below_alloc | apply pw_below_drewN | apply below_drew1 | refine below_set ?_ GE221.out | refine below_set ?_ GE222.out | refine below_set ?_ GE226.out) | exact HB.out)))⟩;clear hw;clear HO_227000;clear BK221;clear BK222;clear BK226;clear HB;have HO_227000:=n0_;have BK221:=n1_;have BK222:=n2_;have BK226:=n3_;have HB:=n4_;clear n0_ n1_ n2_ n3_ n4_;have hnb29:=NB226_221.out;have hnc29:=NB221_226.out;have hcz30_0:w28.cell? ⟨gb226,0,none⟩=some (.slice (some ad227) t223.length co12):=(blk_cell BK226.out 0).trans rfl;have hfz30_0:=blk_frozen BK226.out 0;have q31:(1:Int)≤((t223.length:Int):Int):=of_decide_eq_true (by first | (with_reducible assumption) | assumption);obtain ⟨i031,hi031,_,hsz31,_⟩:=info_parts info9;have hcut31:=cut_from (P:=Tryd.prog) 29 9 .i64 Tryd.underlying29 hi031 1 hsz31 (some ad227) t223.length co12 1 (by omega) q31;have hr31:=Kd.Q_drop (k:=(1:Int).toNat) HO_227000.out (by omega);obtain ⟨A31,hA31⟩:∃ A1,A1=(if co12=(1:Int).toNat then (some ad227) else ((some ad227):Option Addr).map (·.add ((1:Int).toNat*1))):=⟨_,rfl⟩;obtain ⟨c31,hc31⟩:∃ c1,c1=co12-(1:Int).toNat:=⟨_,rfl⟩;have hy31:y232.length=t223.length-(1:Int).toNat:=(by rw [Ny232.out,List.length_drop]);rw [← Ny232.out] at hr31;rw [← hy31,← hA31,← hc31] at hcut31;replace hr31:Kd.Q Kd.string 9 w28 w.heap.size (fun _=>True) (.slice A31 y232.length c31) y232:=(by rw [hA31,hc31,hy31];exact hr31);have HE31:Aside0 ((Value.slice A31 y232.length c31).ownBlock=(.slice (some ad227) t223.length co12:Value).ownBlock):=⟨by rw [hA31];split <;> (cases ((some ad227):Option Addr) <;> rfl)⟩;clear hy31 hi031 hsz31 HO_227000 hA31 hc31;have HO234:=Aside0.mk hr31;clear hr31;replace q31:=eq_true q31))
       go_meet
       case rel=>exact ⟨_,(t230),(y232),(.slice A31 y232.length c31),H',⟨by have:=HJ4.out;first | omega | exact Nat.le_refl _⟩,⟨by (with_reducible repeat (first | apply Kd.Q_alloc | apply Kd.Q_drewN | apply Kd.Q_drew));exact Kd.Q_mono (Kd.Q_far (p:=⟨gb226,0,none⟩) (Kd.Q_types HO234.out BK226.out (by decide)) (fun _ hk=>hk.2) (.slice A31 y232.length c31)) (fun _ hk=>trivial)⟩,⟨by (with_reducible repeat (first | refine blk_drewN ?_ _ | refine blk_drew ?_ | refine blk_alloc ?_ _));refine blk_far ?_ NB221_226.out _;(with_reducible repeat (first | refine blk_drewN ?_ _ | refine blk_drew ?_ | refine blk_alloc ?_ _));exact BK221.out⟩,⟨by (with_reducible repeat (first | refine blk_drewN ?_ _ | refine blk_drew ?_ | refine blk_alloc ?_ _));refine blk_far ?_ NB222_226.out _;(with_reducible repeat (first | refine blk_drewN ?_ _ | refine blk_drew ?_ | refine blk_alloc ?_ _));exact BK222.out⟩,⟨by (with_reducible repeat (first | refine blk_drewN ?_ _ | refine blk_drew ?_ | refine blk_alloc ?_ _));refine blk_put (cs:=#[.slice (some ad227) t223.length co12]) ?_ 0 _ rfl;(with_reducible repeat (first | refine blk_drewN ?_ _ | refine blk_drew ?_ | refine blk_alloc ?_ _));exact BK226.out⟩,⟨by repeat (first | (with_reducible first | exact HB.out | apply below_alloc | apply pw_below_drewN | apply below_drew1 | refine below_set ?_ GE221.out | refine below_set ?_ GE222.out | refine below_set ?_ GE226.out) | exact HB.out)⟩⟩
      ·rw [if_neg c23] at H
       exact absurd H (by simp)
     ·replace c21:=Bool.eq_false_iff.mpr c21
      subst c21
      have H1:(Y4.j1 kj4 a0 0 0 0 (⟨#[]⟩:ByteArray) (⟨#[]⟩:ByteArray) (-1) t223)=some (r1,r2,r3,r4,r5,r6,r7):=by rw [if_neg (show ¬ (false=true) by decide)] at H;exact H
      clear H
      have H:=H1
      clear H1
      have H':=Aside0.mk H
      clear H
      go_wp2
      go_meet
      case rel=>exact ⟨_,((-1)),(t223),(.slice (some ad227) t223.length co12),H',⟨by have:=HJ4.out;first | omega | exact Nat.le_refl _⟩,⟨by (with_reducible repeat (first | apply Kd.Q_alloc | apply Kd.Q_drewN | apply Kd.Q_drew));exact HO_227000.out⟩,⟨by (with_reducible repeat (first | refine blk_drewN ?_ _ | refine blk_drew ?_ | refine blk_alloc ?_ _));exact BK221.out⟩,⟨by (with_reducible repeat (first | refine blk_drewN ?_ _ | refine blk_drew ?_ | refine blk_alloc ?_ _));exact BK222.out⟩,⟨by (with_reducible repeat (first | refine blk_drewN ?_ _ | refine blk_drew ?_ | refine blk_alloc ?_ _));exact BK226.out⟩,⟨by repeat (first | (with_reducible first | exact HB.out | apply below_alloc | apply pw_below_drewN | apply below_drew1 | refine below_set ?_ GE221.out | refine below_set ?_ GE222.out | refine below_set ?_ GE226.out) | exact HB.out)⟩⟩
    case rest =>
     clear HC20
     try clear c1
     try clear c2
     try clear p2
     try clear q2
     try clear hx2
     try clear qi2
     try clear c3
     try clear c3b0
     try clear c3b1
     try clear q3
     try clear c8
     try clear c13
     try clear c14
     try clear c16
     try clear c17
     try clear c18
     try clear c19
     try clear c20
     try clear c21
     try clear p22
     try clear q22
     try clear hx22
     try clear qi22
     try clear c23
     try clear c23b0
     try clear c23b1
     try clear c25
     try clear c26
     try clear c29
     try clear c31
     try clear q31
     try clear hcz15_0
     try clear hcz19_0
     try clear hcz27_0
     try clear hcz27_1
     try clear hcz27_2
     try clear hcz27_3
     try clear hcz27_4
     try clear hcz27_5
     try clear hcz30_0
     try clear hcz9_0
     try clear hcz9_1
     try clear hcz9_2
     try clear hcz9_3
     try clear hcz9_4
     try clear hcz9_5
     try clear hfz15_0
     try clear hfz19_0
     try clear hfz27_0
     try clear hfz27_1
     try clear hfz27_2
     try clear hfz27_3
     try clear hfz27_4
     try clear hfz27_5
     try clear hfz30_0
     try clear hfz9_0
     try clear hfz9_1
     try clear hfz9_2
     try clear hfz9_3
     try clear hfz9_4
     try clear hfz9_5
     try clear hx227_0
     try clear p2
     try clear p227
     try clear q2
     try clear q227
     try clear q31
     obtain ⟨kq,x223005_19,x227000_19,u227000,HA,HJ19,HO_227000,BK221,BK222,BK226,HB⟩:=hcut
     cases kq with
     | zero=>exact absurd HA.out (by simp [Y4.j1])
     | succ kj19 =>
      have H:=HA.out
      clear HA
      simp only [Y4.j1] at H
      replace H:=Option.bind_eq_some_iff.mp H
      obtain ⟨t235,A320,H⟩:=H
      replace H:((Y2.f kj19 t235 x227000_19).bind fun t238=>(if t238<0 then (Y4.j2 kj19 a0 t238 true 0 0 0 (⟨#[]⟩:ByteArray) (⟨#[]⟩:ByteArray) x223005_19 x227000_19) else ((Y20.f).bind fun t239=>(if 0≤t238 then (if t238<(t239.length:Int) then (Y4.j2 kj19 a0 t238 ((wrap64 ((x227000_19.length:Int)-1)) != (((rd_T50 t239 t238).f1).size:Int)) 0 0 0 (⟨#[]⟩:ByteArray) (⟨#[]⟩:ByteArray) x223005_19 x227000_19) else (none)) else (none)))))=some (r1,r2,r3,r4,r5,r6,r7):=H
      have A32:=Aside0.mk A320
      clear A320
      replace H:=Option.bind_eq_some_iff.mp H
      obtain ⟨t238,A330,H⟩:=H
      replace H:(if t238<0 then (Y4.j2 kj19 a0 t238 true 0 0 0 (⟨#[]⟩:ByteArray) (⟨#[]⟩:ByteArray) x223005_19 x227000_19) else ((Y20.f).bind fun t239=>(if 0≤t238 then (if t238<(t239.length:Int) then (Y4.j2 kj19 a0 t238 ((wrap64 ((x227000_19.length:Int)-1)) != (((rd_T50 t239 t238).f1).size:Int)) 0 0 0 (⟨#[]⟩:ByteArray) (⟨#[]⟩:ByteArray) x223005_19 x227000_19) else (none)) else (none))))=some (r1,r2,r3,r4,r5,r6,r7):=H
      have A33:=Aside0.mk A330
      clear A330
      have HC34:=Aside0.mk H
      clear H
      go_upto_region 8 with (first | ((with_reducible refine gate_callee (f:=23) rfl ?_);refine goesL_ (some 36) rfl rfl Tryd.func23 (by kernel_rfl) rfl #[] rfl (by (try simp only [List.map_toArray,List.map_cons,List.map_nil]);first | done | rfl | (simp only [List.length_drop,List.length_take];rfl)) ?_;(with_reducible refine (Y20.calls  t235 _ A32.out).mono ?_);rintro e w35 ⟨v236,rfl,ho0,hb⟩;refine ⟨_,rfl,?_⟩;have n0_:=Aside0.mk (Kd.Q_below (by (with_reducible repeat (first | apply Kd.Q_alloc | apply Kd.Q_drewN | apply Kd.Q_drew));exact HO_227000.out) hb);have n1_:=Aside0.mk (Kd.R_lower ho0 (below_size (by repeat (first | (with_reducible first | exact HB.out | apply below_alloc | apply pw_below_drewN | apply below_drew1 | refine below_set ?_ GE221.out | refine below_set ?_ GE222.out | refine below_set ?_ GE226.out) | exact HB.out))));have n2_:=Aside0.mk (blk_below (g:=gb221) (o:=.cells #[.int .i64 0,.int .i64 0,.int .i64 0,.string (⟨#[]⟩:ByteArray),.string (⟨#[]⟩:ByteArray),.int .i64 0] 23 (0,0)) (by (with_reducible repeat (first | refine blk_drewN ?_ _ | refine blk_drew ?_ | refine blk_alloc ?_ _));exact BK221.out) hb);have n3_:=Aside0.mk (blk_below (g:=gb222) (o:=.cells #[.int .i64 0,.int .i64 0,.int .i64 0,.string (⟨#[]⟩:ByteArray),.string (⟨#[]⟩:ByteArray),.int .i64 x223005_19] 23 (0,0)) (by (with_reducible repeat (first | refine blk_drewN ?_ _ | refine blk_drew ?_ | refine blk_alloc ?_ _));exact BK222.out) hb);have n4_:=Aside0.mk (blk_below (g:=gb226) (o:=.cells #[u227000] 29 (0,0)) (by (with_reducible repeat (first | refine blk_drewN ?_ _ | refine blk_drew ?_ | refine blk_alloc ?_ _));exact BK226.out) hb);have n5_:=Aside0.mk (below_step (by repeat (first | (with_reducible first | exact HB.out | apply below_alloc | apply pw_below_drewN | apply below_drew1 | refine below_set ?_ GE221.out | refine below_set ?_ GE222.out | refine below_set ?_ GE226.out) | exact HB.out)) hb);clear HO_227000;clear BK221;clear BK222;clear BK226;clear HB;have HO_227000:=n0_;have HO237:=n1_;have BK221:=n2_;have BK222:=n3_;have BK226:=n4_;have HB:=n5_;clear n0_ n1_ n2_ n3_ n4_ n5_;(try clear hb);(try clear hb2);(try clear hk);(try clear hi);(try clear ho0);obtain ⟨Ao36,co36,eo36⟩:=Kd.R_slice HO237.out;subst eo36;obtain ⟨Ao37,co37,eo37,_⟩:=Kd.Q_slice HO_227000.out;subst eo37) | ((with_reducible refine gate_callee (f:=22) rfl ?_);refine goesL_ (some 38) rfl rfl Tryd.func22 (by kernel_rfl) rfl #[.slice Ao36 t235.length co36,.func (.func 24) #[] #[.pointer (some ⟨gb226,0,none⟩)]] rfl (by (try simp only [List.map_toArray,List.map_cons,List.map_nil]);first | done | rfl | (simp only [List.length_drop,List.length_take];rfl)) ?_;(with_reducible refine (Y2.calls kj19 _ _ t235 gb226 Ao37 co37 x227000_19 t238 _ ?side1 ?side2 ?side3 ?side4 ?side5 A33.out).mono ?_);(case side1=>repeat (first | exact (Kd.R_reads' HO237.out).2.2 | (with_reducible refine Kd.C_alloc ?_ _) | (with_reducible refine Kd.C_drewN ?_ _) | (with_reducible refine Kd.C_drew ?_)));(case side2=>exact (Kd.R_reads' HO237.out).2.1);(case side3=>repeat (first | exact (Kd.Q_reads' HO_227000.out).2.2 | (with_reducible refine Kd.C_alloc ?_ _) | (with_reducible refine Kd.C_drewN ?_ _) | (with_reducible refine Kd.C_drew ?_)));(case side4=>exact (Kd.Q_reads' HO_227000.out).2.1);(case side5=>(with_reducible repeat (first | refine blk_drewN ?_ _ | refine blk_drew ?_ | refine blk_alloc ?_ _));exact BK226.out);rintro e w38 ⟨rfl,hb⟩;refine ⟨_,rfl,?_⟩;have n0_:=Aside0.mk (Kd.Q_below (by (with_reducible repeat (first | apply Kd.Q_alloc | apply Kd.Q_drewN | apply Kd.Q_drew));exact HO_227000.out) hb);have n1_:=Aside0.mk (Kd.R_below (by (with_reducible repeat (first | apply Kd.R_alloc | apply Kd.R_drewN | apply Kd.R_drew));exact HO237.out) hb);have n2_:=Aside0.mk (blk_below (g:=gb221) (o:=.cells #[.int .i64 0,.int .i64 0,.int .i64 0,.string (⟨#[]⟩:ByteArray),.string (⟨#[]⟩:ByteArray),.int .i64 0] 23 (0,0)) (by (with_reducible repeat (first | refine blk_drewN ?_ _ | refine blk_drew ?_ | refine blk_alloc ?_ _));exact BK221.out) hb);have n3_:=Aside0.mk (blk_below (g:=gb222) (o:=.cells #[.int .i64 0,.int .i64 0,.int .i64 0,.string (⟨#[]⟩:ByteArray),.string (⟨#[]⟩:ByteArray),.int .i64 x223005_19] 23 (0,0)) (by (with_reducible repeat (first | refine blk_drewN ?_ _ | refine blk_drew ?_ | refine blk_alloc ?_ _));exact BK222.out) hb);have n4_:=Aside0.mk (blk_below (g:=gb226) (o:=.cells #[.slice Ao37 x227000_19.length co37] 29 (0,0)) (by (with_reducible repeat (first | refine blk_drewN ?_ _ | refine blk_drew ?_ | refine blk_alloc ?_ _));exact BK226.out) hb);have n5_:=Aside0.mk (below_step (by repeat (first | (with_reducible first | exact HB.out | apply below_alloc | apply pw_below_drewN | apply below_drew1 | refine below_set ?_ GE221.out | refine below_set ?_ GE222.out | refine below_set ?_ GE226.out) | exact HB.out)) hb);clear HO_227000;clear HO237;clear BK221;clear BK222;clear BK226;clear HB;have HO_227000:=n0_;have HO237:=n1_;have BK221:=n2_;have BK222:=n3_;have BK226:=n4_;have HB:=n5_;clear n0_ n1_ n2_ n3_ n4_ n5_;(try clear hb);(try clear hb2);(try clear hk);(try clear hi)))
      (try simp only [Act.put,sa_,s0_,ss_])
      go_cut [52] (fun v52 wc=>∃ (kq:Nat) (x52_33:Bool),v52 = .bool x52_33∧Aside0 (Y4.j2 kq a0 t238 x52_33 0 0 0 (⟨#[]⟩:ByteArray) (⟨#[]⟩:ByteArray) x223005_19 x227000_19=some (r1,r2,r3,r4,r5,r6,r7))∧Aside0 (kq≤kj19)∧Aside0 (Kd.Q Kd.string 9 wc w.heap.size (fun _=>True) (.slice Ao37 x227000_19.length co37) x227000_19)∧Aside0 (wc.heap[gb221]? = some (.cells #[.int .i64 0,.int .i64 0,.int .i64 0,.string (⟨#[]⟩:ByteArray),.string (⟨#[]⟩:ByteArray),.int .i64 0] 23 (0,0)))∧Aside0 (wc.heap[gb222]? = some (.cells #[.int .i64 0,.int .i64 0,.int .i64 0,.string (⟨#[]⟩:ByteArray),.string (⟨#[]⟩:ByteArray),.int .i64 x223005_19] 23 (0,0)))∧Aside0 (wc.heap[gb226]? = some (.cells #[(.slice Ao37 x227000_19.length co37)] 29 (0,0)))∧Aside0 (Below w.heap.size w wc))
      case first =>
       have H:=HC34.out
       clear HC34
       by_cases c39:t238<0
       ·rw [if_pos c39] at H
        have c39b0:decide (t238<0)=true:=decide_eq_true c39
        clear c39
        (first | rw [c39b0] | (simp only [i64_w,i32_w];rw [c39b0]) | skip)
        have H':=Aside0.mk H
        clear H
        try go_wp2
        have n0_:=Aside0.mk (Kd.Q_drew HO_227000.out)
        have n1_:=Aside0.mk (Kd.R_drew HO237.out)
        have n2_:=Aside0.mk (blk_drew BK221.out)
        have n3_:=Aside0.mk (blk_drew BK222.out)
        have n4_:=Aside0.mk (blk_drew BK226.out)
        have n5_:=Aside0.mk (below_drew1 HB.out)
        clear HO_227000
        clear HO237
        clear BK221
        clear BK222
        clear BK226
        clear HB
        have HO_227000:=n0_
        have HO237:=n1_
        have BK221:=n2_
        have BK222:=n3_
        have BK226:=n4_
        have HB:=n5_
        clear n0_ n1_ n2_ n3_ n4_ n5_
        refine start_ (n:=14) (S:=fun w'=>True) (ds:=[]) Y4.q0 (by kernel_rfl) rfl rfl trivial (fun hHeld=>?_);refine with_tabW Y4.tab8 Y4.bits8 (fun HT_ HW_=>?_)
        generalize w38.drew=w40 at HO_227000 HO237 BK221 BK222 BK226 HB hHeld ⊢
        refine pure_ (i:=0) (N:=some 39) (v:=?_) (a':=?_) Y4.q1 rfl rfl (any_of HT_.out (by kernel_rfl)) (fun _ _ _ h=>h) (Or.inl ⟨by rfl,?_⟩) ?_ ?_
        rotate_left
        ·intro w'
         go_simp
         with_reducible rfl
        rotate_left
        ·simp only [Act.put,sa_,s0_,ss_,i64_w,i32_w]
         rfl
        refine pure_ (i:=1) (N:=some 40) (v:=?_) (a':=?_) Y4.q2 rfl rfl (any_of HT_.out (by kernel_rfl)) (fun _ _ _ h=>h) (Or.inl ⟨by rfl,?_⟩) ?_ ?_
        rotate_left
        ·intro w'
         go_simp
         with_reducible rfl
        rotate_left
        ·simp only [Act.put,sa_,s0_,ss_,i64_w,i32_w]
         rfl
        refine pure_ (i:=2) (N:=some 41) (v:=?_) (a':=?_) Y4.q3 rfl rfl (any_of HT_.out (by kernel_rfl)) (fun _ _ _ h=>h) (Or.inl ⟨by rfl,?_⟩) ?_ ?_
        rotate_left
        ·intro w'
         go_simp
         with_reducible rfl
        rotate_left
        ·simp only [Act.put,sa_,s0_,ss_,i64_w,i32_w]
         rfl
        refine pure_ (i:=3) (N:=some 42) (v:=undef) (a':=?_) #[true,true,true,true,false,false,false,false,false,false,false,false,false,false] rfl rfl (any_of HT_.out (by kernel_rfl)) (fun _ _ _ h=>h) (Or.inr ⟨by rfl,rfl⟩) ?_ ?_
        rotate_left
        ·simp only [Act.put,sa_,s0_,ss_,i64_w,i32_w]
         rfl
        refine pure_ (i:=4) (N:=some 43) (v:=undef) (a':=?_) #[true,true,true,true,true,false,false,false,false,false,false,false,false,false] rfl rfl (any_of HT_.out (by kernel_rfl)) (fun _ _ _ h=>h) (Or.inr ⟨by rfl,rfl⟩) ?_ ?_
        rotate_left
        ·simp only [Act.put,sa_,s0_,ss_,i64_w,i32_w]
         rfl
        refine pure_ (i:=5) (N:=some 44) (v:=undef) (a':=?_) #[true,true,true,true,true,true,false,false,false,false,false,false,false,false] rfl rfl (any_of HT_.out (by kernel_rfl)) (fun _ _ _ h=>h) (Or.inr ⟨by rfl,rfl⟩) ?_ ?_
        rotate_left
        ·simp only [Act.put,sa_,s0_,ss_,i64_w,i32_w]
         rfl
        refine pure_ (i:=6) (N:=some 45) (v:=undef) (a':=?_) #[true,true,true,true,true,true,true,false,false,false,false,false,false,false] rfl rfl (any_of HT_.out (by kernel_rfl)) (fun _ _ _ h=>h) (Or.inr ⟨by rfl,rfl⟩) ?_ ?_
        rotate_left
        ·simp only [Act.put,sa_,s0_,ss_,i64_w,i32_w]
         rfl
        refine pure_ (i:=7) (N:=some 46) (v:=undef) (a':=?_) Y4.q4 rfl rfl (any_of HT_.out (by kernel_rfl)) (fun _ _ _ h=>h) (Or.inr ⟨by rfl,rfl⟩) ?_ ?_
        rotate_left
        ·simp only [Act.put,sa_,s0_,ss_,i64_w,i32_w]
         rfl
        refine pure_ (i:=8) (N:=some 47) (v:=undef) (a':=?_) Y4.q5 rfl rfl (any_of HT_.out (by kernel_rfl)) (fun _ _ _ h=>h) (Or.inr ⟨by rfl,rfl⟩) ?_ ?_
        rotate_left
        ·simp only [Act.put,sa_,s0_,ss_,i64_w,i32_w]
         rfl
        refine pure_ (i:=9) (N:=some 48) (v:=undef) (a':=?_) Y4.q6 rfl rfl (any_of HT_.out (by kernel_rfl)) (fun _ _ _ h=>h) (Or.inr ⟨by rfl,rfl⟩) ?_ ?_
        rotate_left
        ·simp only [Act.put,sa_,s0_,ss_,i64_w,i32_w]
         rfl
        refine pure_ (i:=10) (N:=some 49) (v:=undef) (a':=?_) Y4.q7 rfl rfl (any_of HT_.out (by kernel_rfl)) (fun _ _ _ h=>h) (Or.inr ⟨by rfl,rfl⟩) ?_ ?_
        rotate_left
        ·simp only [Act.put,sa_,s0_,ss_,i64_w,i32_w]
         rfl
        refine pure_ (i:=11) (N:=some 50) (v:=undef) (a':=?_) Y4.q8 rfl rfl (any_of HT_.out (by kernel_rfl)) (fun _ _ _ h=>h) (Or.inr ⟨by rfl,rfl⟩) ?_ ?_
        rotate_left
        ·simp only [Act.put,sa_,s0_,ss_,i64_w,i32_w]
         rfl
        refine pure_ (i:=12) (N:=some 51) (v:=undef) (a':=?_) Y4.q9 rfl rfl (any_of HT_.out (by kernel_rfl)) (fun _ _ _ h=>h) (Or.inr ⟨by rfl,rfl⟩) ?_ ?_
        rotate_left
        ·simp only [Act.put,sa_,s0_,ss_,i64_w,i32_w]
         rfl
        refine pure_ (i:=13) (N:=some 52) (v:=?_) (a':=?_) Y4.q10 rfl rfl (any_of HT_.out (by kernel_rfl)) (fun _ _ _ h=>h) (Or.inl ⟨by rfl,?_⟩) ?_ ?_
        rotate_left
        ·intro w'
         go_simp
         with_reducible rfl
        rotate_left
        ·simp only [Act.put,sa_,s0_,ss_,i64_w,i32_w]
         rfl
        refine done_ (done_of HT_.out (by kernel_rfl)) ?_
        try go_wp2
        go_meet
        case rel=>exact ⟨_,(true),(by first | rfl | (simp;done) | (simp [*];done) | (simp [bne];done)),H',⟨by have:=HJ4.out;have:=HJ19.out;first | omega | exact Nat.le_refl _⟩,⟨by (with_reducible repeat (first | apply Kd.Q_alloc | apply Kd.Q_drewN | apply Kd.Q_drew));exact HO_227000.out⟩,⟨by (with_reducible repeat (first | refine blk_drewN ?_ _ | refine blk_drew ?_ | refine blk_alloc ?_ _));exact BK221.out⟩,⟨by (with_reducible repeat (first | refine blk_drewN ?_ _ | refine blk_drew ?_ | refine blk_alloc ?_ _));exact BK222.out⟩,⟨by (with_reducible repeat (first | refine blk_drewN ?_ _ | refine blk_drew ?_ | refine blk_alloc ?_ _));exact BK226.out⟩,⟨by repeat (first | (with_reducible first | exact HB.out | apply below_alloc | apply pw_below_drewN | apply below_drew1 | refine below_set ?_ GE221.out | refine below_set ?_ GE222.out | refine below_set ?_ GE226.out) | exact HB.out)⟩⟩
       ·rw [if_neg c39] at H
        have c39b0:decide (t238<0)=false:=decide_eq_false c39
        clear c39
        (first | rw [c39b0] | (simp only [i64_w,i32_w];rw [c39b0]) | skip)
        replace H:=Option.bind_eq_some_iff.mp H
        obtain ⟨t239,A410,H⟩:=H
        replace H:(if 0≤t238 then (if t238<(t239.length:Int) then (Y4.j2 kj19 a0 t238 ((wrap64 ((x227000_19.length:Int)-1)) != (((rd_T50 t239 t238).f1).size:Int)) 0 0 0 (⟨#[]⟩:ByteArray) (⟨#[]⟩:ByteArray) x223005_19 x227000_19) else (none)) else (none))=some (r1,r2,r3,r4,r5,r6,r7):=H
        have A41:=Aside0.mk A410
        clear A410
        by_cases c42:0≤t238
        ·rw [if_pos c42] at H
         have c42b0:decide (0≤t238)=true:=decide_eq_true c42
         clear c42
         by_cases c43:t238<(t239.length:Int)
         ·rw [if_pos c43] at H
          have c43b0:decide (t238<(t239.length:Int))=true:=decide_eq_true c43
          clear c43
          have H':=Aside0.mk H
          clear H
          try go_wp2
          have n0_:=Aside0.mk (Kd.Q_drew HO_227000.out)
          have n1_:=Aside0.mk (Kd.R_drew HO237.out)
          have n2_:=Aside0.mk (blk_drew BK221.out)
          have n3_:=Aside0.mk (blk_drew BK222.out)
          have n4_:=Aside0.mk (blk_drew BK226.out)
          have n5_:=Aside0.mk (below_drew1 HB.out)
          clear HO_227000
          clear HO237
          clear BK221
          clear BK222
          clear BK226
          clear HB
          have HO_227000:=n0_
          have HO237:=n1_
          have BK221:=n2_
          have BK222:=n3_
          have BK226:=n4_
          have HB:=n5_
          clear n0_ n1_ n2_ n3_ n4_ n5_
          refine start_ (n:=14) (S:=fun w'=>w'.cell? ⟨gb226,0,none⟩=some (.slice Ao37 x227000_19.length co37)) (ds:=[]) Y4.q0 (by kernel_rfl) rfl rfl ((blk_cell BK226.out 0).trans rfl) (fun hHeld=>?_);refine with_tabW Y4.tab8 Y4.bits8 (fun HT_ HW_=>?_)
          generalize w38.drew=w44 at HO_227000 HO237 BK221 BK222 BK226 HB hHeld ⊢
          refine pure_ (i:=0) (N:=some 39) (v:=?_) (a':=?_) Y4.q1 rfl rfl (any_of HT_.out (by kernel_rfl)) (fun _ _ _ h=>h) (Or.inl ⟨by rfl,?_⟩) ?_ ?_
          rotate_left
          ·intro w'
           go_simp
           with_reducible rfl
          rotate_left
          ·simp only [Act.put,sa_,s0_,ss_,i64_w,i32_w]
           rfl
          refine pure_ (i:=1) (N:=some 40) (v:=?_) (a':=?_) Y4.q2 rfl rfl (any_of HT_.out (by kernel_rfl)) (fun _ _ _ h=>h) (Or.inl ⟨by rfl,?_⟩) ?_ ?_
          rotate_left
          ·intro w'
           go_simp
           with_reducible rfl
          rotate_left
          ·simp only [Act.put,sa_,s0_,ss_,i64_w,i32_w]
           rfl
          refine pure_ (i:=2) (N:=some 41) (v:=?_) (a':=?_) Y4.q3 rfl rfl (any_of HT_.out (by kernel_rfl)) (fun _ _ _ h=>h) (Or.inl ⟨by rfl,?_⟩) ?_ ?_
          rotate_left
          ·intro w'
           go_simp
           with_reducible rfl
          rotate_left
          ·simp only [Act.put,sa_,s0_,ss_,i64_w,i32_w]
           rfl
          refine pure_ (i:=7) (N:=some 46) (v:=?_) (a':=?_) #[true,true,true,false,false,false,false,true,false,false,false,false,false,false] rfl rfl (any_of HT_.out (by kernel_rfl)) (fun _ _ _ h=>h) (Or.inl ⟨by rfl,?_⟩) ?_ ?_
          rotate_left
          ·intro w'
           go_simp
           with_reducible rfl
          rotate_left
          ·simp only [Act.put,sa_,s0_,ss_,i64_w,i32_w]
           rfl
          refine take_ (i:=3) (N:=some 42) (v:=?_) (a':=?_) #[true,true,true,true,false,false,false,true,false,false,false,false,false,false] rfl rfl (take_ofW HT_.out HW_.out (by kernel_rfl)) (fun _ _ _ h=>h) (Or.inl ⟨by rfl,?_⟩) hHeld ?_ ?_
          rotate_left
          ·rintro w' s0
           go_simp
           with_reducible rfl
          rotate_left
          ·simp only [Act.put,sa_,s0_,ss_,i64_w,i32_w]
           rfl
          refine pure_ (i:=4) (N:=some 43) (v:=?_) (a':=?_) #[true,true,true,true,true,false,false,true,false,false,false,false,false,false] rfl rfl (any_of HT_.out (by kernel_rfl)) (fun _ _ _ h=>h) (Or.inl ⟨by rfl,?_⟩) ?_ ?_
          rotate_left
          ·intro w'
           go_simp
           with_reducible rfl
          rotate_left
          ·simp only [Act.put,sa_,s0_,ss_,i64_w,i32_w]
           rfl
          refine pure_ (i:=5) (N:=some 44) (v:=?_) (a':=?_) #[true,true,true,true,true,true,false,true,false,false,false,false,false,false] rfl rfl (any_of HT_.out (by kernel_rfl)) (fun _ _ _ h=>h) (Or.inl ⟨by rfl,?_⟩) ?_ ?_
          rotate_left
          ·intro w'
           go_simp
           with_reducible rfl
          rotate_left
          ·simp only [Act.put,sa_,s0_,ss_,i64_w,i32_w]
           rfl
          refine one_ (i:=6) (N:=some 45) Y4.q4 rfl rfl (one_of HT_.out (by kernel_rfl)) (by decide) (fun K hK=>?_)
          refine goes_ Tryd.func23 (by kernel_rfl) rfl #[] (by rfl) rfl rfl (by (try simp only [List.map_toArray,List.map_cons,List.map_nil]);first | done | rfl | (simp only [List.length_drop,List.length_take];rfl)) ?_
          with_reducible refine (Y20.calls  t239 _ A41.out).mono ?_
          rintro e w45 ⟨v240,rfl,ho0,hb⟩
          refine ⟨_,rfl,?_⟩
          have n0_:=Aside0.mk (Kd.Q_below (by (with_reducible repeat (first | apply Kd.Q_alloc | apply Kd.Q_drewN | apply Kd.Q_drew));exact HO_227000.out) hb)
          have n1_:=Aside0.mk (Kd.R_elder' (by (with_reducible repeat (first | apply Kd.R_alloc | apply Kd.R_drewN | apply Kd.R_drew));exact HO237.out) (Kd.R_base ho0) hb)
          have n2_:=Aside0.mk (Kd.R_lower (Kd.R_new' ho0 (Kd.R_lt (by (with_reducible repeat (first | apply Kd.R_alloc | apply Kd.R_drewN | apply Kd.R_drew));exact HO237.out))) (below_size (by repeat (first | (with_reducible first | exact HB.out | apply below_alloc | apply pw_below_drewN | apply below_drew1 | refine below_set ?_ GE221.out | refine below_set ?_ GE222.out | refine below_set ?_ GE226.out) | exact HB.out))))
          have n3_:=Aside0.mk (blk_below (g:=gb221) (o:=.cells #[.int .i64 0,.int .i64 0,.int .i64 0,.string (⟨#[]⟩:ByteArray),.string (⟨#[]⟩:ByteArray),.int .i64 0] 23 (0,0)) (by (with_reducible repeat (first | refine blk_drewN ?_ _ | refine blk_drew ?_ | refine blk_alloc ?_ _));exact BK221.out) hb)
          have n4_:=Aside0.mk (blk_below (g:=gb222) (o:=.cells #[.int .i64 0,.int .i64 0,.int .i64 0,.string (⟨#[]⟩:ByteArray),.string (⟨#[]⟩:ByteArray),.int .i64 x223005_19] 23 (0,0)) (by (with_reducible repeat (first | refine blk_drewN ?_ _ | refine blk_drew ?_ | refine blk_alloc ?_ _));exact BK222.out) hb)
          have n5_:=Aside0.mk (blk_below (g:=gb226) (o:=.cells #[.slice Ao37 x227000_19.length co37] 29 (0,0)) (by (with_reducible repeat (first | refine blk_drewN ?_ _ | refine blk_drew ?_ | refine blk_alloc ?_ _));exact BK226.out) hb)
          have n6_:=Aside0.mk (below_step (by repeat (first | (with_reducible first | exact HB.out | apply below_alloc | apply pw_below_drewN | apply below_drew1 | refine below_set ?_ GE221.out | refine below_set ?_ GE222.out | refine below_set ?_ GE226.out) | exact HB.out)) hb)
          clear HO_227000
          clear HO237
          clear BK221
          clear BK222
          clear BK226
          clear HB
          have HO_227000:=n0_
          have HO237:=n1_
          have HO241:=n2_
          have BK221:=n3_
          have BK222:=n4_
          have BK226:=n5_
          have HB:=n6_
          clear n0_ n1_ n2_ n3_ n4_ n5_ n6_
          (try clear hb)
          (try clear hb2)
          (try clear hk)
          (try clear hi)
          (try clear ho0)
          obtain ⟨Ao46,co46,eo46⟩:=Kd.R_slice HO241.out
          (first | subst eo46 | (injection eo46 with f1_ f2_ f3_;have f4_:=f1_.symm;have f5_:=f3_.symm;clear f1_ f2_ f3_;subst f4_;subst f5_))
          have p242:0≤(t238:Int):=of_decide_eq_true (by first | (with_reducible assumption) | assumption)
          have q242:t238<(t239.length:Int):=of_decide_eq_true (by first | (with_reducible assumption) | assumption)
          obtain ⟨ad242,e242,hx242_0,hx242_1⟩:=at_T50 (Kd.R_reads' HO241.out).2.2 t238 p242 q242
          cases e242
          replace p242:=eq_true p242
          replace q242:=eq_true q242
          refine hK.out _ _ ((blk_cell BK226.out 0).trans rfl) (fun hHeld=>?_)
          clear hK K
          refine norm_ (a':=?_) ?_ ?_
          rotate_left
          ·show Act.put _ (some 45) _=_
           simp only [Act.put,sa_,s0_,ss_,i64_w,i32_w]
           rfl
          refine pure_ (i:=8) (N:=some 47) (v:=?_) (a':=?_) Y4.q5 rfl rfl (any_of HT_.out (by kernel_rfl)) (fun _ _ _ h=>h) (Or.inl ⟨by rfl,?_⟩) ?_ ?_
          rotate_left
          ·intro w'
           go_simp
           with_reducible rfl
          rotate_left
          ·simp only [Act.put,sa_,s0_,ss_,i64_w,i32_w]
           rfl
          refine pure_ (i:=9) (N:=some 48) (v:=?_) (a':=?_) Y4.q6 rfl rfl (any_of HT_.out (by kernel_rfl)) (fun _ _ _ h=>h) (Or.inl ⟨by rfl,?_⟩) ?_ ?_
          rotate_left
          ·intro w'
           go_simp
           with_reducible rfl
          rotate_left
          ·simp only [Act.put,sa_,s0_,ss_,i64_w,i32_w]
           rfl
          refine one_ (i:=10) (N:=some 49) Y4.q7 rfl rfl (one_of HT_.out (by kernel_rfl)) (by decide) (fun K hK=>?_)
          refine value_ (w1:=w45) (v:=.string ((rd_T50 t239 t238).f1)) (by rfl) rfl ?_ ?_
          ·go_simp
          refine hK.out _ _ ((blk_cell BK226.out 0).trans rfl) (fun hHeld=>?_)
          clear hK K
          refine norm_ (a':=?_) ?_ ?_
          rotate_left
          ·show Act.put _ (some 49) _=_
           simp only [Act.put,sa_,s0_,ss_,i64_w,i32_w]
           rfl
          refine pure_ (i:=11) (N:=some 50) (v:=?_) (a':=?_) Y4.q8 rfl rfl (any_of HT_.out (by kernel_rfl)) (fun _ _ _ h=>h) (Or.inl ⟨by rfl,?_⟩) ?_ ?_
          rotate_left
          ·intro w'
           go_simp
           with_reducible rfl
          rotate_left
          ·simp only [Act.put,sa_,s0_,ss_,i64_w,i32_w]
           rfl
          refine pure_ (i:=12) (N:=some 51) (v:=?_) (a':=?_) Y4.q9 rfl rfl (any_of HT_.out (by kernel_rfl)) (fun _ _ _ h=>h) (Or.inl ⟨by rfl,?_⟩) ?_ ?_
          rotate_left
          ·intro w'
           go_simp
           with_reducible rfl
          rotate_left
          ·simp only [Act.put,sa_,s0_,ss_,i64_w,i32_w]
           rfl
          refine pure_ (i:=13) (N:=some 52) (v:=?_) (a':=?_) Y4.q10 rfl rfl (any_of HT_.out (by kernel_rfl)) (fun _ _ _ h=>h) (Or.inl ⟨by rfl,?_⟩) ?_ ?_
          rotate_left
          ·intro w'
           go_simp
           with_reducible rfl
          rotate_left
          ·simp only [Act.put,sa_,s0_,ss_,i64_w,i32_w]
           rfl
          refine done_ (done_of HT_.out (by kernel_rfl)) ?_
          try go_wp2
          go_meet
          case rel=>exact ⟨_,(((wrap64 ((x227000_19.length:Int)-1)) != (((rd_T50 t239 t238).f1).size:Int))),(by first | rfl | (simp;done) | (simp [*];done) | (simp [bne];done)),H',⟨by have:=HJ4.out;have:=HJ19.out;first | omega | exact Nat.le_refl _⟩,⟨by (with_reducible repeat (first | apply Kd.Q_alloc | apply Kd.Q_drewN | apply Kd.Q_drew));exact HO_227000.out⟩,⟨by (with_reducible repeat (first | refine blk_drewN ?_ _ | refine blk_drew ?_ | refine blk_alloc ?_ _));exact BK221.out⟩,⟨by (with_reducible repeat (first | refine blk_drewN ?_ _ | refine blk_drew ?_ | refine blk_alloc ?_ _));exact BK222.out⟩,⟨by (with_reducible repeat (first | refine blk_drewN ?_ _ | refine blk_drew ?_ | refine blk_alloc ?_ _));exact BK226.out⟩,⟨by repeat (first | (with_reducible first | exact HB.out | apply below_alloc | apply pw_below_drewN | apply below_drew1 | refine below_set ?_ GE221.out | refine below_set ?_ GE222.out | refine below_set ?_ GE226.out) | exact HB.out)⟩⟩
         ·rw [if_neg c43] at H
          exact absurd H (by simp)
        ·rw [if_neg c42] at H
         exact absurd H (by simp)
      case rest =>
       clear HC34
       try clear c1
       try clear c2
       try clear p2
       try clear q2
       try clear hx2
       try clear qi2
       try clear c3
       try clear c3b0
       try clear c3b1
       try clear q3
       try clear c4
       try clear p6
       try clear c7
       try clear c8
       try clear c13
       try clear c14
       try clear c16
       try clear c17
       try clear c18
       try clear c19
       try clear c20
       try clear c21
       try clear p22
       try clear q22
       try clear hx22
       try clear qi22
       try clear c23
       try clear c23b0
       try clear c23b1
       try clear p24
       try clear q24
       try clear hx24
       try clear c25
       try clear c26
       try clear c29
       try clear c31
       try clear q31
       try clear c39
       try clear c39b0
       try clear c42
       try clear c42b0
       try clear c43
       try clear c43b0
       try clear hcz15_0
       try clear hcz19_0
       try clear hcz27_0
       try clear hcz27_1
       try clear hcz27_2
       try clear hcz27_3
       try clear hcz27_4
       try clear hcz27_5
       try clear hcz30_0
       try clear hcz9_0
       try clear hcz9_1
       try clear hcz9_2
       try clear hcz9_3
       try clear hcz9_4
       try clear hcz9_5
       try clear hfz15_0
       try clear hfz19_0
       try clear hfz27_0
       try clear hfz27_1
       try clear hfz27_2
       try clear hfz27_3
       try clear hfz27_4
       try clear hfz27_5
       try clear hfz30_0
       try clear hfz9_0
       try clear hfz9_1
       try clear hfz9_2
       try clear hfz9_3
       try clear hfz9_4
       try clear hfz9_5
       try clear hx227_0
       try clear hx242_0
       try clear hx242_1
       try clear p2
       try clear p22
       try clear p227
       try clear p242
       try clear q2
       try clear q22
       try clear q227
       try clear q242
       try clear q3
       try clear q31
       obtain ⟨kq,x52_33,rfl,HA,HJ33,HO_227000,BK221,BK222,BK226,HB⟩:=hcut
       cases kq with
       | zero=>exact absurd HA.out (by simp [Y4.j2])
       | succ kj33 =>
        have H:=HA.out
        clear HA
        simp only [Y4.j2] at H
        by_cases c47:x52_33=true
        ·subst c47
         have H1:(some (0,0,0,(⟨#[]⟩:ByteArray),(⟨#[]⟩:ByteArray),0,false))=some (r1,r2,r3,r4,r5,r6,r7):=by rw [if_pos rfl] at H;exact H
         clear H
         have H:=H1
         clear H1
         simp only [Option.some.injEq,Prod.mk.injEq] at H
         obtain ⟨rfl,rfl,rfl,rfl,rfl,rfl,rfl⟩:=H
         have hnb48:=NB221_222.out
         have hnc48:=NB222_221.out
         have hnb49:=NB221_226.out
         have hnc49:=NB226_221.out
         have hcz50_0:wc.cell? ⟨gb221,0,none⟩=some (.int .i64 0):=(blk_cell BK221.out 0).trans rfl
         have hcz50_1:wc.cell? ⟨gb221,1,none⟩=some (.int .i64 0):=(blk_cell BK221.out 1).trans rfl
         have hcz50_2:wc.cell? ⟨gb221,2,none⟩=some (.int .i64 0):=(blk_cell BK221.out 2).trans rfl
         have hcz50_3:wc.cell? ⟨gb221,3,none⟩=some (.string (⟨#[]⟩:ByteArray)):=(blk_cell BK221.out 3).trans rfl
         have hcz50_4:wc.cell? ⟨gb221,4,none⟩=some (.string (⟨#[]⟩:ByteArray)):=(blk_cell BK221.out 4).trans rfl
         have hcz50_5:wc.cell? ⟨gb221,5,none⟩=some (.int .i64 0):=(blk_cell BK221.out 5).trans rfl
         have hfz50_0:=blk_frozen BK221.out 0
         have hfz50_1:=blk_frozen BK221.out 1
         have hfz50_2:=blk_frozen BK221.out 2
         have hfz50_3:=blk_frozen BK221.out 3
         have hfz50_4:=blk_frozen BK221.out 4
         have hfz50_5:=blk_frozen BK221.out 5
         go_wp2
         refine bodyPost_ret (results_ct rfl _ _ gb221 23 #[.int .i64 0,.int .i64 0,.int .i64 0,.string (⟨#[]⟩:ByteArray),.string (⟨#[]⟩:ByteArray),.int .i64 0] (0,0) _ rfl (by (with_reducible repeat (first | refine blk_drewN ?_ _ | refine blk_drew ?_ | refine blk_alloc ?_ _));refine blk_put (cs:=#[.int .i64 0,.int .i64 0,.int .i64 0,.string (⟨#[]⟩:ByteArray),.string (⟨#[]⟩:ByteArray),.int .i64 0]) ?_ 5 _ rfl;(with_reducible repeat (first | refine blk_drewN ?_ _ | refine blk_drew ?_ | refine blk_alloc ?_ _));refine blk_put (cs:=#[.int .i64 0,.int .i64 0,.int .i64 0,.string (⟨#[]⟩:ByteArray),.string (⟨#[]⟩:ByteArray),.int .i64 0]) ?_ 4 _ rfl;(with_reducible repeat (first | refine blk_drewN ?_ _ | refine blk_drew ?_ | refine blk_alloc ?_ _));refine blk_put (cs:=#[.int .i64 0,.int .i64 0,.int .i64 0,.string (⟨#[]⟩:ByteArray),.string (⟨#[]⟩:ByteArray),.int .i64 0]) ?_ 3 _ rfl;(with_reducible repeat (first | refine blk_drewN ?_ _ | refine blk_drew ?_ | refine blk_alloc ?_ _));refine blk_put (cs:=#[.int .i64 0,.int .i64 0,.int .i64 0,.string (⟨#[]⟩:ByteArray),.string (⟨#[]⟩:ByteArray),.int .i64 0]) ?_ 2 _ rfl;(with_reducible repeat (first | refine blk_drewN ?_ _ | refine blk_drew ?_ | refine blk_alloc ?_ _));refine blk_put (cs:=#[.int .i64 0,.int .i64 0,.int .i64 0,.string (⟨#[]⟩:ByteArray),.string (⟨#[]⟩:ByteArray),.int .i64 0]) ?_ 1 _ rfl;(with_reducible repeat (first | refine blk_drewN ?_ _ | refine blk_drew ?_ | refine blk_alloc ?_ _));refine blk_put (cs:=#[.int .i64 0,.int .i64 0,.int .i64 0,.string (⟨#[]⟩:ByteArray),.string (⟨#[]⟩:ByteArray),.int .i64 0]) ?_ 0 _ rfl;(with_reducible repeat (first | refine blk_drewN ?_ _ | refine blk_drew ?_ | refine blk_alloc ?_ _));exact BK221.out) Tryd.underlying23 rfl (by kernel_rfl)) rfl ?_
         exact ⟨by first | rfl | (simp [errW_none,errW_some] <;> rfl) | (simp [*,errW_none,errW_some] <;> rfl),by repeat (first | (with_reducible first | exact HB.out | apply below_alloc | apply pw_below_drewN | apply below_drew1 | refine below_set ?_ GE221.out | refine below_set ?_ GE222.out | refine below_set ?_ GE226.out) | exact HB.out)⟩
        ·replace c47:=Bool.eq_false_iff.mpr c47
         subst c47
         have H1:((Y4.lp t238 (wrap64 (1+t238)) 0 0 (⟨#[]⟩:ByteArray) (⟨#[]⟩:ByteArray) x223005_19 x227000_19).bind fun bt243=>((Y3.f kj33 bt243.1 bt243.2.1 bt243.2.2.1 bt243.2.2.2.1 bt243.2.2.2.2.1 bt243.2.2.2.2.2).bind fun t249=>(if t249=true then ((Y18.f bt243.1 bt243.2.1 bt243.2.2.1 bt243.2.2.2.1 bt243.2.2.2.2.1 bt243.2.2.2.2.2).bind fun t250=>(some (bt243.1,bt243.2.1,bt243.2.2.1,bt243.2.2.2.1,bt243.2.2.2.2.1,bt243.2.2.2.2.2,(t250.toList == a0.toList)))) else (some (bt243.1,bt243.2.1,bt243.2.2.1,bt243.2.2.2.1,bt243.2.2.2.2.1,bt243.2.2.2.2.2,false)))))=some (r1,r2,r3,r4,r5,r6,r7):=by rw [if_neg (show ¬ (false=true) by decide)] at H;exact H
         clear H
         have H:=H1
         clear H1
         replace H:=Option.bind_eq_some_iff.mp H
         obtain ⟨⟨t243,t244,t245,t246,t247,t248⟩,A510,H⟩:=H
         replace H:((Y3.f kj33 t243 t244 t245 t246 t247 t248).bind fun t249=>(if t249=true then ((Y18.f t243 t244 t245 t246 t247 t248).bind fun t250=>(some (t243,t244,t245,t246,t247,t248,(t250.toList == a0.toList)))) else (some (t243,t244,t245,t246,t247,t248,false))))=some (r1,r2,r3,r4,r5,r6,r7):=H
         have A51:=Aside0.mk A510
         clear A510
         replace H:=Option.bind_eq_some_iff.mp H
         obtain ⟨t249,A520,H⟩:=H
         replace H:(if t249=true then ((Y18.f t243 t244 t245 t246 t247 t248).bind fun t250=>(some (t243,t244,t245,t246,t247,t248,(t250.toList == a0.toList)))) else (some (t243,t244,t245,t246,t247,t248,false)))=some (r1,r2,r3,r4,r5,r6,r7):=H
         have A52:=Aside0.mk A520
         clear A520
         have HC:=Aside0.mk H
         clear H
         have A51':=A51.out
         clear A51
         unfold Y4.lp at A51'
         obtain ⟨t239,AF0,A51'⟩:=Option.bind_eq_some_iff.mp A51'
         have AF:=Aside0.mk AF0
         clear AF0
         try dsimp only at A51'
         by_cases c51a:0≤t238
         case neg=>rw [if_neg c51a] at A51';cases A51'
         rw [if_pos c51a] at A51'
         by_cases c51b:t238<(t239.length:Int)
         case neg=>rw [if_neg c51b] at A51';cases A51'
         rw [if_pos c51b] at A51'
         by_cases c51c:(∀ y ∈ (((rd_T50 t239 t238).f1)).data.toList,y.toNat<128)∧(((rd_T50 t239 t238).f1)).size≤1000
         case neg=>rw [if_neg c51c] at A51';cases A51'
         rw [if_pos c51c] at A51'
         have AG:=Aside0.mk A51'
         have AS:=Aside0.mk c51c.1
         have AZ:=Aside0.mk c51c.2
         clear A51' c51c
         have GF_:=eq_true c51a
         have GG_:=eq_true c51b
         have hnb55:=NB222_221.out
         have hnc55:=NB221_222.out
         have hnb56:=NB222_226.out
         have hnc56:=NB226_222.out
         have hcz57_0:wc.cell? ⟨gb222,0,none⟩=some (.int .i64 0):=(blk_cell BK222.out 0).trans rfl
         have hcz57_1:wc.cell? ⟨gb222,1,none⟩=some (.int .i64 0):=(blk_cell BK222.out 1).trans rfl
         have hcz57_2:wc.cell? ⟨gb222,2,none⟩=some (.int .i64 0):=(blk_cell BK222.out 2).trans rfl
         have hcz57_3:wc.cell? ⟨gb222,3,none⟩=some (.string (⟨#[]⟩:ByteArray)):=(blk_cell BK222.out 3).trans rfl
         have hcz57_4:wc.cell? ⟨gb222,4,none⟩=some (.string (⟨#[]⟩:ByteArray)):=(blk_cell BK222.out 4).trans rfl
         have hcz57_5:wc.cell? ⟨gb222,5,none⟩=some (.int .i64 x223005_19):=(blk_cell BK222.out 5).trans rfl
         have hfz57_0:=blk_frozen BK222.out 0
         have hfz57_1:=blk_frozen BK222.out 1
         have hfz57_2:=blk_frozen BK222.out 2
         have hfz57_3:=blk_frozen BK222.out 3
         have hfz57_4:=blk_frozen BK222.out 4
         have hfz57_5:=blk_frozen BK222.out 5
         have hnb58:=NB226_221.out
         have hnc58:=NB221_226.out
         have hcz59_0:wc.cell? ⟨gb226,0,none⟩=some (.slice Ao37 x227000_19.length co37):=(blk_cell BK226.out 0).trans rfl
         have hfz59_0:=blk_frozen BK226.out 0
         go_wp2_with (fail)
         refine (Y20.calls t239 _ AF.out).mono ?_
         rintro e w51 ⟨v240,rfl,ho0,hb⟩
         have n0_:=Aside0.mk (Kd.Q_below (Kd.Q_mono (Kd.Q_far (p:=⟨gb222,0,none⟩) (Kd.Q_types HO_227000.out BK222.out (by decide)) (fun _ hk=>hk.2) (.int .i64 (wrap64 (1+t238)))) (fun _ hk=>trivial)) hb)
         have n1_:=Aside0.mk (blk_below (g:=gb221) (o:=.cells #[.int .i64 0,.int .i64 0,.int .i64 0,.string (⟨#[]⟩:ByteArray),.string (⟨#[]⟩:ByteArray),.int .i64 0] 23 (0,0)) (by refine blk_far ?_ NB221_222.out _;exact BK221.out) hb)
         have n2_:=Aside0.mk (blk_below (g:=gb222) (o:=.cells #[.int .i64 (wrap64 (1+t238)),.int .i64 0,.int .i64 0,.string (⟨#[]⟩:ByteArray),.string (⟨#[]⟩:ByteArray),.int .i64 x223005_19] 23 (0,0)) (by refine blk_put (cs:=#[.int .i64 0,.int .i64 0,.int .i64 0,.string (⟨#[]⟩:ByteArray),.string (⟨#[]⟩:ByteArray),.int .i64 x223005_19]) ?_ 0 _ rfl;exact BK222.out) hb)
         have n3_:=Aside0.mk (blk_below (g:=gb226) (o:=.cells #[.slice Ao37 x227000_19.length co37] 29 (0,0)) (by refine blk_far ?_ NB226_222.out _;exact BK226.out) hb)
         have n4_:=Aside0.mk (below_step (below_set HB.out GE222.out) hb)
         clear HO_227000 BK221 BK222 BK226 HB
         have HO_227000:=n0_
         have BK221:=n1_
         have BK222:=n2_
         have BK226:=n3_
         have HB:=n4_
         clear n0_ n1_ n2_ n3_ n4_ hb
         obtain ⟨Ao46,co46,eo46⟩:=Kd.R_slice ho0
         subst eo46
         obtain ⟨ad242,e242,hx242_0,hx242_1⟩:=at_T50 (Kd.R_reads' ho0).2.2 t238 c51a c51b
         cases e242
         clear ho0
         go_wp2
         have HRI:RI_ w51 Ao37 x227000_19 gb222 w51.heap.size:=RI_.of HO_227000.out BK222.out
         go_loopg [9,10,11] (((rd_T50 t239 t238).f1).size+1) (fun kq v9 v10 v11 w'=>∃ (pos:Nat) (a_ b_:Int) (d_ e_:ByteArray),Aside0 (Y4.g x227000_19 (((rd_T50 t239 t238).f1).data.toList.drop pos) pos (wrap64 (1+t238)) a_ b_ d_ e_ x223005_19=some (t243,t244,t245,t246,t247,t248))∧Aside0 (((rd_T50 t239 t238).f1).size<pos+kq)∧Aside0 (kq≤((rd_T50 t239 t238).f1).size+1)∧Aside0 (w'.heap[w51.heap.size]? = some (.stringIter ((rd_T50 t239 t238).f1) pos))∧Aside0 (w'.heap[gb221]? = some (.cells #[.int .i64 0,.int .i64 0,.int .i64 0,.string (⟨#[]⟩:ByteArray),.string (⟨#[]⟩:ByteArray),.int .i64 0] 23 (0,0)))∧Aside0 (w'.heap[gb222]? = some (.cells #[.int .i64 (wrap64 (1+t238)),.int .i64 a_,.int .i64 b_,.string d_,.string e_,.int .i64 x223005_19] 23 (0,0)))∧Aside0 (w'.heap[gb226]? = some (.cells #[.slice Ao37 x227000_19.length co37] 29 (0,0)))∧Aside0 (RI_ w' Ao37 x227000_19 gb222 w51.heap.size)∧Aside0 (Below w.heap.size w w'))
         case atStart=>exact ⟨0,0,0,(⟨#[]⟩:ByteArray),(⟨#[]⟩:ByteArray),⟨by rw [List.drop_zero];exact AG.out⟩,⟨by omega⟩,⟨Nat.le_refl _⟩,⟨World.iter_heap _ _ _⟩,⟨blk_alloc BK221.out _⟩,⟨blk_alloc BK222.out _⟩,⟨blk_alloc BK226.out _⟩,⟨RI_.alloc HRI _⟩,⟨below_alloc HB.out _⟩⟩
         case round =>
          have HGI:=Aside0.mk (below_size HB.out)
          have N221:=Aside0.mk (Nat.ne_of_lt (blk_lt BK221.out))
          have N222:=Aside0.mk (Nat.ne_of_lt (blk_lt BK222.out))
          have N226:=Aside0.mk (Nat.ne_of_lt (blk_lt BK226.out))
          clear AG BK221 BK222 BK226 HB HRI HO_227000 hx242_0 hx242_1
          obtain ⟨pos,a_,b_,d_,e_,HA,HK,HK1,HI,BK221,BK222,BK226,RI,HB⟩:=hrel
          obtain ⟨gi,hgi⟩:∃ g_,w51.heap.size=g_:=⟨_,rfl⟩
          simp only [hgi] at *
          obtain ⟨F1,hF1⟩:∃ x_,((rd_T50 t239 t238).f1)=x_:=⟨_,rfl⟩
          rw [hF1] at HA HK HK1 HI AS AZ
          by_cases hp:pos<F1.size
          case neg =>
           have hnx:∀ ty,(Instr.next (.pointer (some ⟨gi,0,none⟩)) true ty).run Tryd.prog wr = .ok (.tuple #[.bool false]) wr:=fun ty=>Lib.run_next_end_at wr gi F1 pos ty HI.out hp
           have hd:F1.data.toList.drop pos=[]:=List.drop_eq_nil_iff.2 (by have:F1.data.toList.length=F1.size:=rfl;omega)
           have HA':=HA.out
           clear HA
           rw [hd] at HA'
           simp only [Y4.g,Option.some.injEq,Prod.mk.injEq] at HA'
           obtain ⟨hq1,hq2,hq3,hq4,hq5,hq6⟩:=HA'
           have hs2:=hq2.symm;have hs3:=hq3.symm;have hs4:=hq4.symm;have hs5:=hq5.symm;clear hq2 hq3 hq4 hq5;subst hs2 hs3 hs4 hs5
           have BK2:=BK222.out
           rw [hq1,hq6] at BK2
           clear BK222
           have BK222:=Aside0.mk BK2
           clear BK2 hq1 hq6
           have HO_227000:=Aside0.mk (Kd.Q_nil Kd.string 9 wr w.heap.size (fun _=>True))
           have H:=HC.out
           clear HC
           go_wp2
           by_cases c53:t249=true
           ·subst c53
            have H1:((Y18.f t243 t244 t245 t246 t247 t248).bind fun t250=>(some (t243,t244,t245,t246,t247,t248,(t250.toList == a0.toList))))=some (r1,r2,r3,r4,r5,r6,r7):=by rw [if_pos rfl] at H;exact H
            clear H
            have H:=H1
            clear H1
            replace H:=Option.bind_eq_some_iff.mp H
            obtain ⟨t250,A540,H⟩:=H
            replace H:(some (t243,t244,t245,t246,t247,t248,(t250.toList == a0.toList)))=some (r1,r2,r3,r4,r5,r6,r7):=H
            have A54:=Aside0.mk A540
            clear A540
            simp only [Option.some.injEq,Prod.mk.injEq] at H
            obtain ⟨rfl,rfl,rfl,rfl,rfl,rfl,rfl⟩:=H
            have n0_:=Aside0.mk (Kd.Q_drew HO_227000.out)
            have n1_:=Aside0.mk (blk_drew BK221.out)
            have n2_:=Aside0.mk (blk_drew BK222.out)
            have n3_:=Aside0.mk (blk_drew BK226.out)
            have n4_:=Aside0.mk (below_drew1 HB.out)
            clear HO_227000
            clear BK221
            clear BK222
            clear BK226
            clear HB
            have HO_227000:=n0_
            have BK221:=n1_
            have BK222:=n2_
            have BK226:=n3_
            have HB:=n4_
            clear n0_ n1_ n2_ n3_ n4_
            refine start_ (n:=11) (S:=fun w'=>w'.cell? ⟨gb222,0,none⟩=some (.int .i64 t243)∧w'.cell? ⟨gb222,1,none⟩=some (.int .i64 t244)∧w'.cell? ⟨gb222,2,none⟩=some (.int .i64 t245)∧w'.cell? ⟨gb222,3,none⟩=some (.string t246)∧w'.cell? ⟨gb222,4,none⟩=some (.string t247)∧w'.cell? ⟨gb222,5,none⟩=some (.int .i64 t248)) (ds:=[]) #[false,false,false,false,false,false,false,false,false,false,false] (by kernel_rfl) rfl rfl ⟨(blk_cell BK222.out 0).trans rfl,(blk_cell BK222.out 1).trans rfl,(blk_cell BK222.out 2).trans rfl,(blk_cell BK222.out 3).trans rfl,(blk_cell BK222.out 4).trans rfl,(blk_cell BK222.out 5).trans rfl⟩ (fun hHeld=>?_);refine with_tabW Y4.tab23 Y4.bits23 (fun HT_ HW_=>?_)
            generalize wr.drew=w63 at HO_227000 BK221 BK222 BK226 HB hHeld ⊢
            refine take_ (i:=0) (N:=some 95) (v:=?_) (a':=?_) #[true,false,false,false,false,false,false,false,false,false,false] rfl rfl (take_ofW HT_.out HW_.out (by kernel_rfl)) (fun _ _ _ h=>h) (Or.inl ⟨by rfl,?_⟩) hHeld ?_ ?_
            rotate_left
            ·rintro w' ⟨s0,s1,s2,s3,s4,s5⟩
             go_simp
             with_reducible rfl
            rotate_left
            ·simp only [Act.put,sa_,s0_,ss_,i64_w,i32_w]
             rfl
            refine take_ (i:=1) (N:=some 96) (v:=?_) (a':=?_) #[true,true,false,false,false,false,false,false,false,false,false] rfl rfl (take_ofW HT_.out HW_.out (by kernel_rfl)) (fun _ _ _ h=>h) (Or.inl ⟨by rfl,?_⟩) hHeld ?_ ?_
            rotate_left
            ·rintro w' ⟨s0,s1,s2,s3,s4,s5⟩
             go_simp
             with_reducible rfl
            rotate_left
            ·simp only [Act.put,sa_,s0_,ss_,i64_w,i32_w]
             rfl
            refine one_ (i:=2) (N:=some 97) #[true,true,true,false,false,false,false,false,false,false,false] rfl rfl (one_of HT_.out (by kernel_rfl)) (by decide) (fun K hK=>?_)
            refine goes_ Tryd.func25 (by kernel_rfl) rfl #[.agg #[.int .i64 t243,.int .i64 t244,.int .i64 t245,.string t246,.string t247,.int .i64 t248]] (by rfl) rfl rfl (by (try simp only [List.map_toArray,List.map_cons,List.map_nil]);first | done | rfl | (simp only [List.length_drop,List.length_take];rfl)) ?_
            with_reducible refine (Y3.calls kj33 t243 t244 t245 t246 t247 t248 true _ A52.out).mono ?_
            rintro e w64 ⟨rfl,hb⟩
            refine ⟨_,rfl,?_⟩
            have n0_:=Aside0.mk (Kd.Q_below (by (with_reducible repeat (first | apply Kd.Q_alloc | apply Kd.Q_drewN | apply Kd.Q_drew));exact HO_227000.out) hb)
            have n1_:=Aside0.mk (blk_below (g:=gb221) (o:=.cells #[.int .i64 0,.int .i64 0,.int .i64 0,.string (⟨#[]⟩:ByteArray),.string (⟨#[]⟩:ByteArray),.int .i64 0] 23 (0,0)) (by (with_reducible repeat (first | refine blk_drewN ?_ _ | refine blk_drew ?_ | refine blk_alloc ?_ _));exact BK221.out) hb)
            have n2_:=Aside0.mk (blk_below (g:=gb222) (o:=.cells #[.int .i64 t243,.int .i64 t244,.int .i64 t245,.string t246,.string t247,.int .i64 t248] 23 (0,0)) (by (with_reducible repeat (first | refine blk_drewN ?_ _ | refine blk_drew ?_ | refine blk_alloc ?_ _));exact BK222.out) hb)
            have n3_:=Aside0.mk (blk_below (g:=gb226) (o:=.cells #[.slice Ao37 x227000_19.length co37] 29 (0,0)) (by (with_reducible repeat (first | refine blk_drewN ?_ _ | refine blk_drew ?_ | refine blk_alloc ?_ _));exact BK226.out) hb)
            have n4_:=Aside0.mk (below_step (by repeat (first | (with_reducible first | exact HB.out | apply below_alloc | apply pw_below_drewN | apply below_drew1 | refine below_set ?_ GE221.out | refine below_set ?_ GE222.out | refine below_set ?_ GE226.out) | exact HB.out)) hb)
            clear HO_227000
            clear BK221
            clear BK222
            clear BK226
            clear HB
            have HO_227000:=n0_
            have BK221:=n1_
            have BK222:=n2_
            have BK226:=n3_
            have HB:=n4_
            clear n0_ n1_ n2_ n3_ n4_
            (try clear hb)
            (try clear hb2)
            (try clear hk)
            (try clear hi)
            refine hK.out _ _ ⟨(blk_cell BK222.out 0).trans rfl,(blk_cell BK222.out 1).trans rfl,(blk_cell BK222.out 2).trans rfl,(blk_cell BK222.out 3).trans rfl,(blk_cell BK222.out 4).trans rfl,(blk_cell BK222.out 5).trans rfl⟩ (fun hHeld=>?_)
            clear hK K
            refine norm_ (a':=?_) ?_ ?_
            rotate_left
            ·show Act.put _ (some 97) _=_
             simp only [Act.put,sa_,s0_,ss_,i64_w,i32_w]
             rfl
            refine pure_ (i:=3) (N:=some 98) (v:=?_) (a':=?_) #[true,true,true,true,false,false,false,false,false,false,false] rfl rfl (any_of HT_.out (by kernel_rfl)) (fun _ _ _ h=>h) (Or.inl ⟨by rfl,?_⟩) ?_ ?_
            rotate_left
            ·intro w'
             go_simp
             with_reducible rfl
            rotate_left
            ·simp only [Act.put,sa_,s0_,ss_,i64_w,i32_w]
             rfl
            refine pure_ (i:=6) (N:=some 101) (v:=?_) (a':=?_) #[true,true,true,true,false,false,true,false,false,false,false] rfl rfl (any_of HT_.out (by kernel_rfl)) (fun _ _ _ h=>h) (Or.inl ⟨by rfl,?_⟩) ?_ ?_
            rotate_left
            ·intro w'
             go_simp
             with_reducible rfl
            rotate_left
            ·simp only [Act.put,sa_,s0_,ss_,i64_w,i32_w]
             rfl
            refine take_ (i:=4) (N:=some 99) (v:=?_) (a':=?_) #[true,true,true,true,true,false,true,false,false,false,false] rfl rfl (take_ofW HT_.out HW_.out (by kernel_rfl)) (fun _ _ _ h=>h) (Or.inl ⟨by rfl,?_⟩) hHeld ?_ ?_
            rotate_left
            ·rintro w' ⟨s0,s1,s2,s3,s4,s5⟩
             go_simp
             with_reducible rfl
            rotate_left
            ·simp only [Act.put,sa_,s0_,ss_,i64_w,i32_w]
             rfl
            refine one_ (i:=5) (N:=some 100) #[true,true,true,true,true,true,true,false,false,false,false] rfl rfl (one_of HT_.out (by kernel_rfl)) (by decide) (fun K hK=>?_)
            refine goes_ Tryd.func26 (by kernel_rfl) rfl #[.agg #[.int .i64 t243,.int .i64 t244,.int .i64 t245,.string t246,.string t247,.int .i64 t248]] (by rfl) rfl rfl (by (try simp only [List.map_toArray,List.map_cons,List.map_nil]);first | done | rfl | (simp only [List.length_drop,List.length_take];rfl)) ?_
            with_reducible refine (Y18.calls t243 t244 t245 t246 t247 t248 t250 _ A54.out (tab_below htab_ (by repeat (first | (with_reducible first | exact HB.out | apply below_alloc | apply pw_below_drewN | apply below_drew1 | refine below_set ?_ GE221.out | refine below_set ?_ GE222.out | refine below_set ?_ GE226.out) | exact HB.out)))).mono ?_
            rintro e w65 ⟨rfl,hb⟩
            refine ⟨_,rfl,?_⟩
            have n0_:=Aside0.mk (Kd.Q_below (by (with_reducible repeat (first | apply Kd.Q_alloc | apply Kd.Q_drewN | apply Kd.Q_drew));exact HO_227000.out) hb)
            have n1_:=Aside0.mk (blk_below (g:=gb221) (o:=.cells #[.int .i64 0,.int .i64 0,.int .i64 0,.string (⟨#[]⟩:ByteArray),.string (⟨#[]⟩:ByteArray),.int .i64 0] 23 (0,0)) (by (with_reducible repeat (first | refine blk_drewN ?_ _ | refine blk_drew ?_ | refine blk_alloc ?_ _));exact BK221.out) hb)
            have n2_:=Aside0.mk (blk_below (g:=gb222) (o:=.cells #[.int .i64 t243,.int .i64 t244,.int .i64 t245,.string t246,.string t247,.int .i64 t248] 23 (0,0)) (by (with_reducible repeat (first | refine blk_drewN ?_ _ | refine blk_drew ?_ | refine blk_alloc ?_ _));exact BK222.out) hb)
            have n3_:=Aside0.mk (blk_below (g:=gb226) (o:=.cells #[.slice Ao37 x227000_19.length co37] 29 (0,0)) (by (with_reducible repeat (first | refine blk_drewN ?_ _ | refine blk_drew ?_ | refine blk_alloc ?_ _));exact BK226.out) hb)
            have n4_:=Aside0.mk (below_step (by repeat (first | (with_reducible first | exact HB.out | apply below_alloc | apply pw_below_drewN | apply below_drew1 | refine below_set ?_ GE221.out | refine below_set ?_ GE222.out | refine below_set ?_ GE226.out) | exact HB.out)) hb)
            clear HO_227000
            clear BK221
            clear BK222
            clear BK226
            clear HB
            have HO_227000:=n0_
            have BK221:=n1_
            have BK222:=n2_
            have BK226:=n3_
            have HB:=n4_
            clear n0_ n1_ n2_ n3_ n4_
            (try clear hb)
            (try clear hb2)
            (try clear hk)
            (try clear hi)
            refine hK.out _ _ ⟨(blk_cell BK222.out 0).trans rfl,(blk_cell BK222.out 1).trans rfl,(blk_cell BK222.out 2).trans rfl,(blk_cell BK222.out 3).trans rfl,(blk_cell BK222.out 4).trans rfl,(blk_cell BK222.out 5).trans rfl⟩ (fun hHeld=>?_)
            clear hK K
            refine norm_ (a':=?_) ?_ ?_
            rotate_left
            ·show Act.put _ (some 100) _=_
             simp only [Act.put,sa_,s0_,ss_,i64_w,i32_w]
             rfl
            refine pure_ (i:=7) (N:=some 102) (v:=?_) (a':=?_) #[true,true,true,true,true,true,true,true,false,false,false] rfl rfl (any_of HT_.out (by kernel_rfl)) (fun _ _ _ h=>h) (Or.inl ⟨by rfl,?_⟩) ?_ ?_
            rotate_left
            ·intro w'
             go_simp
             with_reducible rfl
            rotate_left
            ·simp only [Act.put,sa_,s0_,ss_,i64_w,i32_w]
             rfl
            refine pure_ (i:=8) (N:=some 103) (v:=?_) (a':=?_) #[true,true,true,true,true,true,true,true,true,false,false] rfl rfl (any_of HT_.out (by kernel_rfl)) (fun _ _ _ h=>h) (Or.inl ⟨by rfl,?_⟩) ?_ ?_
            rotate_left
            ·intro w'
             go_simp
             with_reducible rfl
            rotate_left
            ·simp only [Act.put,sa_,s0_,ss_,i64_w,i32_w]
             rfl
            refine one_ (i:=9) (N:=none) #[true,true,true,true,true,true,true,true,true,true,false] rfl rfl (one_of HT_.out (by kernel_rfl)) (by decide) (fun K hK=>?_)
            have hs66:w65.cell? ⟨gb221,0,none⟩=some (.int .i64 0):=(blk_cell BK221.out 0).trans rfl
            have hfs66:=blk_frozen BK221.out 0
            have hns66_1:=NB222_221.out
            have hns66_2:=NB226_221.out
            have hms66_1:=NB221_222.out
            have hms66_2:=NB221_226.out
            have hs67:w65.cell? ⟨gb221,1,none⟩=some (.int .i64 0):=(blk_cell BK221.out 1).trans rfl
            have hfs67:=blk_frozen BK221.out 1
            have hns67_1:=NB222_221.out
            have hns67_2:=NB226_221.out
            have hms67_1:=NB221_222.out
            have hms67_2:=NB221_226.out
            have hs68:w65.cell? ⟨gb221,2,none⟩=some (.int .i64 0):=(blk_cell BK221.out 2).trans rfl
            have hfs68:=blk_frozen BK221.out 2
            have hns68_1:=NB222_221.out
            have hns68_2:=NB226_221.out
            have hms68_1:=NB221_222.out
            have hms68_2:=NB221_226.out
            have hs69:w65.cell? ⟨gb221,3,none⟩=some (.string (⟨#[]⟩:ByteArray)):=(blk_cell BK221.out 3).trans rfl
            have hfs69:=blk_frozen BK221.out 3
            have hns69_1:=NB222_221.out
            have hns69_2:=NB226_221.out
            have hms69_1:=NB221_222.out
            have hms69_2:=NB221_226.out
            have hs70:w65.cell? ⟨gb221,4,none⟩=some (.string (⟨#[]⟩:ByteArray)):=(blk_cell BK221.out 4).trans rfl
            have hfs70:=blk_frozen BK221.out 4
            have hns70_1:=NB222_221.out
            have hns70_2:=NB226_221.out
            have hms70_1:=NB221_222.out
            have hms70_2:=NB221_226.out
            have hs71:w65.cell? ⟨gb221,5,none⟩=some (.int .i64 0):=(blk_cell BK221.out 5).trans rfl
            have hfs71:=blk_frozen BK221.out 5
            have hns71_1:=NB222_221.out
            have hns71_2:=NB226_221.out
            have hms71_1:=NB221_222.out
            have hms71_2:=NB221_226.out
            refine skip_ (w1:=?_) (by rfl) rfl ?_ ?_
            rotate_left
            ·go_simp
             rfl
            refine hK.out _ _ ⟨((cell_far (p:=⟨gb221,_,none⟩) NB222_221.out _).trans (((cell_far (p:=⟨gb221,_,none⟩) NB222_221.out _).trans (((cell_far (p:=⟨gb221,_,none⟩) NB222_221.out _).trans (((cell_far (p:=⟨gb221,_,none⟩) NB222_221.out _).trans (((cell_far (p:=⟨gb221,_,none⟩) NB222_221.out _).trans (((cell_far (p:=⟨gb221,_,none⟩) NB222_221.out _).trans (hHeld.1)))))))))))),((cell_far (p:=⟨gb221,_,none⟩) NB222_221.out _).trans (((cell_far (p:=⟨gb221,_,none⟩) NB222_221.out _).trans (((cell_far (p:=⟨gb221,_,none⟩) NB222_221.out _).trans (((cell_far (p:=⟨gb221,_,none⟩) NB222_221.out _).trans (((cell_far (p:=⟨gb221,_,none⟩) NB222_221.out _).trans (((cell_far (p:=⟨gb221,_,none⟩) NB222_221.out _).trans (hHeld.2.1)))))))))))),((cell_far (p:=⟨gb221,_,none⟩) NB222_221.out _).trans (((cell_far (p:=⟨gb221,_,none⟩) NB222_221.out _).trans (((cell_far (p:=⟨gb221,_,none⟩) NB222_221.out _).trans (((cell_far (p:=⟨gb221,_,none⟩) NB222_221.out _).trans (((cell_far (p:=⟨gb221,_,none⟩) NB222_221.out _).trans (((cell_far (p:=⟨gb221,_,none⟩) NB222_221.out _).trans (hHeld.2.2.1)))))))))))),((cell_far (p:=⟨gb221,_,none⟩) NB222_221.out _).trans (((cell_far (p:=⟨gb221,_,none⟩) NB222_221.out _).trans (((cell_far (p:=⟨gb221,_,none⟩) NB222_221.out _).trans (((cell_far (p:=⟨gb221,_,none⟩) NB222_221.out _).trans (((cell_far (p:=⟨gb221,_,none⟩) NB222_221.out _).trans (((cell_far (p:=⟨gb221,_,none⟩) NB222_221.out _).trans (hHeld.2.2.2.1)))))))))))),((cell_far (p:=⟨gb221,_,none⟩) NB222_221.out _).trans (((cell_far (p:=⟨gb221,_,none⟩) NB222_221.out _).trans (((cell_far (p:=⟨gb221,_,none⟩) NB222_221.out _).trans (((cell_far (p:=⟨gb221,_,none⟩) NB222_221.out _).trans (((cell_far (p:=⟨gb221,_,none⟩) NB222_221.out _).trans (((cell_far (p:=⟨gb221,_,none⟩) NB222_221.out _).trans (hHeld.2.2.2.2.1)))))))))))),((cell_far (p:=⟨gb221,_,none⟩) NB222_221.out _).trans (((cell_far (p:=⟨gb221,_,none⟩) NB222_221.out _).trans (((cell_far (p:=⟨gb221,_,none⟩) NB222_221.out _).trans (((cell_far (p:=⟨gb221,_,none⟩) NB222_221.out _).trans (((cell_far (p:=⟨gb221,_,none⟩) NB222_221.out _).trans (((cell_far (p:=⟨gb221,_,none⟩) NB222_221.out _).trans (hHeld.2.2.2.2.2))))))))))))⟩ (fun hHeld=>?_)
            clear hK K
            refine pure_ (i:=10) (N:=some 3) (v:=?_) (a':=?_) #[true,true,true,true,true,true,true,true,true,true,true] rfl rfl (any_of HT_.out (by kernel_rfl)) (fun _ _ _ h=>h) (Or.inl ⟨by rfl,?_⟩) ?_ ?_
            rotate_left
            ·intro w'
             go_simp
             with_reducible rfl
            rotate_left
            ·simp only [Act.put,sa_,s0_,ss_,i64_w,i32_w]
             rfl
            refine done_ (done_of HT_.out (by kernel_rfl)) ?_
            try go_wp2
            refine bodyPost_ret (results_ct rfl _ _ gb221 23 #[.int .i64 t243,.int .i64 t244,.int .i64 t245,.string t246,.string t247,.int .i64 t248] (0,0) _ rfl (by (with_reducible repeat (first | refine blk_drewN ?_ _ | refine blk_drew ?_ | refine blk_alloc ?_ _));refine blk_put (cs:=#[.int .i64 t243,.int .i64 t244,.int .i64 t245,.string t246,.string t247,.int .i64 0]) ?_ 5 _ rfl;(with_reducible repeat (first | refine blk_drewN ?_ _ | refine blk_drew ?_ | refine blk_alloc ?_ _));refine blk_put (cs:=#[.int .i64 t243,.int .i64 t244,.int .i64 t245,.string t246,.string (⟨#[]⟩:ByteArray),.int .i64 0]) ?_ 4 _ rfl;(with_reducible repeat (first | refine blk_drewN ?_ _ | refine blk_drew ?_ | refine blk_alloc ?_ _));refine blk_put (cs:=#[.int .i64 t243,.int .i64 t244,.int .i64 t245,.string (⟨#[]⟩:ByteArray),.string (⟨#[]⟩:ByteArray),.int .i64 0]) ?_ 3 _ rfl;(with_reducible repeat (first | refine blk_drewN ?_ _ | refine blk_drew ?_ | refine blk_alloc ?_ _));refine blk_put (cs:=#[.int .i64 t243,.int .i64 t244,.int .i64 0,.string (⟨#[]⟩:ByteArray),.string (⟨#[]⟩:ByteArray),.int .i64 0]) ?_ 2 _ rfl;(with_reducible repeat (first | refine blk_drewN ?_ _ | refine blk_drew ?_ | refine blk_alloc ?_ _));refine blk_put (cs:=#[.int .i64 t243,.int .i64 0,.int .i64 0,.string (⟨#[]⟩:ByteArray),.string (⟨#[]⟩:ByteArray),.int .i64 0]) ?_ 1 _ rfl;(with_reducible repeat (first | refine blk_drewN ?_ _ | refine blk_drew ?_ | refine blk_alloc ?_ _));refine blk_put (cs:=#[.int .i64 0,.int .i64 0,.int .i64 0,.string (⟨#[]⟩:ByteArray),.string (⟨#[]⟩:ByteArray),.int .i64 0]) ?_ 0 _ rfl;(with_reducible repeat (first | refine blk_drewN ?_ _ | refine blk_drew ?_ | refine blk_alloc ?_ _));exact BK221.out) Tryd.underlying23 rfl (by kernel_rfl)) rfl ?_
            exact ⟨by first | rfl | (simp [errW_none,errW_some] <;> rfl) | (simp [*,errW_none,errW_some] <;> rfl),by repeat (first | (with_reducible first | exact HB.out | apply below_alloc | apply pw_below_drewN | apply below_drew1 | refine below_set ?_ GE221.out | refine below_set ?_ GE222.out | refine below_set ?_ GE226.out) | exact HB.out)⟩
           ·replace c53:=Bool.eq_false_iff.mpr c53
            subst c53
            have H1:(some (t243,t244,t245,t246,t247,t248,false))=some (r1,r2,r3,r4,r5,r6,r7):=by rw [if_neg (show ¬ (false=true) by decide)] at H;exact H
            clear H
            have H:=H1
            clear H1
            simp only [Option.some.injEq,Prod.mk.injEq] at H
            obtain ⟨rfl,rfl,rfl,rfl,rfl,rfl,rfl⟩:=H
            have n0_:=Aside0.mk (Kd.Q_drew HO_227000.out)
            have n1_:=Aside0.mk (blk_drew BK221.out)
            have n2_:=Aside0.mk (blk_drew BK222.out)
            have n3_:=Aside0.mk (blk_drew BK226.out)
            have n4_:=Aside0.mk (below_drew1 HB.out)
            clear HO_227000
            clear BK221
            clear BK222
            clear BK226
            clear HB
            have HO_227000:=n0_
            have BK221:=n1_
            have BK222:=n2_
            have BK226:=n3_
            have HB:=n4_
            clear n0_ n1_ n2_ n3_ n4_
            refine start_ (n:=11) (S:=fun w'=>w'.cell? ⟨gb222,0,none⟩=some (.int .i64 t243)∧w'.cell? ⟨gb222,1,none⟩=some (.int .i64 t244)∧w'.cell? ⟨gb222,2,none⟩=some (.int .i64 t245)∧w'.cell? ⟨gb222,3,none⟩=some (.string t246)∧w'.cell? ⟨gb222,4,none⟩=some (.string t247)∧w'.cell? ⟨gb222,5,none⟩=some (.int .i64 t248)) (ds:=[]) #[false,false,false,false,false,false,false,false,false,false,false] (by kernel_rfl) rfl rfl ⟨(blk_cell BK222.out 0).trans rfl,(blk_cell BK222.out 1).trans rfl,(blk_cell BK222.out 2).trans rfl,(blk_cell BK222.out 3).trans rfl,(blk_cell BK222.out 4).trans rfl,(blk_cell BK222.out 5).trans rfl⟩ (fun hHeld=>?_);refine with_tabW Y4.tab23 Y4.bits23 (fun HT_ HW_=>?_)
            generalize wr.drew=w80 at HO_227000 BK221 BK222 BK226 HB hHeld ⊢
            refine take_ (i:=0) (N:=some 95) (v:=?_) (a':=?_) #[true,false,false,false,false,false,false,false,false,false,false] rfl rfl (take_ofW HT_.out HW_.out (by kernel_rfl)) (fun _ _ _ h=>h) (Or.inl ⟨by rfl,?_⟩) hHeld ?_ ?_
            rotate_left
            ·rintro w' ⟨s0,s1,s2,s3,s4,s5⟩
             go_simp
             with_reducible rfl
            rotate_left
            ·simp only [Act.put,sa_,s0_,ss_,i64_w,i32_w]
             rfl
            refine take_ (i:=1) (N:=some 96) (v:=?_) (a':=?_) #[true,true,false,false,false,false,false,false,false,false,false] rfl rfl (take_ofW HT_.out HW_.out (by kernel_rfl)) (fun _ _ _ h=>h) (Or.inl ⟨by rfl,?_⟩) hHeld ?_ ?_
            rotate_left
            ·rintro w' ⟨s0,s1,s2,s3,s4,s5⟩
             go_simp
             with_reducible rfl
            rotate_left
            ·simp only [Act.put,sa_,s0_,ss_,i64_w,i32_w]
             rfl
            refine one_ (i:=2) (N:=some 97) #[true,true,true,false,false,false,false,false,false,false,false] rfl rfl (one_of HT_.out (by kernel_rfl)) (by decide) (fun K hK=>?_)
            refine goes_ Tryd.func25 (by kernel_rfl) rfl #[.agg #[.int .i64 t243,.int .i64 t244,.int .i64 t245,.string t246,.string t247,.int .i64 t248]] (by rfl) rfl rfl (by (try simp only [List.map_toArray,List.map_cons,List.map_nil]);first | done | rfl | (simp only [List.length_drop,List.length_take];rfl)) ?_
            with_reducible refine (Y3.calls kj33 t243 t244 t245 t246 t247 t248 false _ A52.out).mono ?_
            rintro e w81 ⟨rfl,hb⟩
            refine ⟨_,rfl,?_⟩
            have n0_:=Aside0.mk (Kd.Q_below (by (with_reducible repeat (first | apply Kd.Q_alloc | apply Kd.Q_drewN | apply Kd.Q_drew));exact HO_227000.out) hb)
            have n1_:=Aside0.mk (blk_below (g:=gb221) (o:=.cells #[.int .i64 0,.int .i64 0,.int .i64 0,.string (⟨#[]⟩:ByteArray),.string (⟨#[]⟩:ByteArray),.int .i64 0] 23 (0,0)) (by (with_reducible repeat (first | refine blk_drewN ?_ _ | refine blk_drew ?_ | refine blk_alloc ?_ _));exact BK221.out) hb)
            have n2_:=Aside0.mk (blk_below (g:=gb222) (o:=.cells #[.int .i64 t243,.int .i64 t244,.int .i64 t245,.string t246,.string t247,.int .i64 t248] 23 (0,0)) (by (with_reducible repeat (first | refine blk_drewN ?_ _ | refine blk_drew ?_ | refine blk_alloc ?_ _));exact BK222.out) hb)
            have n3_:=Aside0.mk (blk_below (g:=gb226) (o:=.cells #[.slice Ao37 x227000_19.length co37] 29 (0,0)) (by (with_reducible repeat (first | refine blk_drewN ?_ _ | refine blk_drew ?_ | refine blk_alloc ?_ _));exact BK226.out) hb)
            have n4_:=Aside0.mk (below_step (by repeat (first | (with_reducible first | exact HB.out | apply below_alloc | apply pw_below_drewN | apply below_drew1 | refine below_set ?_ GE221.out | refine below_set ?_ GE222.out | refine below_set ?_ GE226.out) | exact HB.out)) hb)
            clear HO_227000
            clear BK221
            clear BK222
            clear BK226
            clear HB
            have HO_227000:=n0_
            have BK221:=n1_
            have BK222:=n2_
            have BK226:=n3_
            have HB:=n4_
            clear n0_ n1_ n2_ n3_ n4_
            (try clear hb)
            (try clear hb2)
            (try clear hk)
            (try clear hi)
            refine hK.out _ _ ⟨(blk_cell BK222.out 0).trans rfl,(blk_cell BK222.out 1).trans rfl,(blk_cell BK222.out 2).trans rfl,(blk_cell BK222.out 3).trans rfl,(blk_cell BK222.out 4).trans rfl,(blk_cell BK222.out 5).trans rfl⟩ (fun hHeld=>?_)
            clear hK K
            refine norm_ (a':=?_) ?_ ?_
            rotate_left
            ·show Act.put _ (some 97) _=_
             simp only [Act.put,sa_,s0_,ss_,i64_w,i32_w]
             rfl
            refine pure_ (i:=3) (N:=some 98) (v:=?_) (a':=?_) #[true,true,true,true,false,false,false,false,false,false,false] rfl rfl (any_of HT_.out (by kernel_rfl)) (fun _ _ _ h=>h) (Or.inl ⟨by rfl,?_⟩) ?_ ?_
            rotate_left
            ·intro w'
             go_simp
             with_reducible rfl
            rotate_left
            ·simp only [Act.put,sa_,s0_,ss_,i64_w,i32_w]
             rfl
            refine pure_ (i:=4) (N:=some 99) (v:=undef) (a':=?_) #[true,true,true,true,true,false,false,false,false,false,false] rfl rfl (any_of HT_.out (by kernel_rfl)) (fun _ _ _ h=>h) (Or.inr ⟨by rfl,rfl⟩) ?_ ?_
            rotate_left
            ·simp only [Act.put,sa_,s0_,ss_,i64_w,i32_w]
             rfl
            refine pure_ (i:=5) (N:=some 100) (v:=undef) (a':=?_) #[true,true,true,true,true,true,false,false,false,false,false] rfl rfl (any_of HT_.out (by kernel_rfl)) (fun _ _ _ h=>h) (Or.inr ⟨by rfl,rfl⟩) ?_ ?_
            rotate_left
            ·simp only [Act.put,sa_,s0_,ss_,i64_w,i32_w]
             rfl
            refine pure_ (i:=6) (N:=some 101) (v:=undef) (a':=?_) #[true,true,true,true,true,true,true,false,false,false,false] rfl rfl (any_of HT_.out (by kernel_rfl)) (fun _ _ _ h=>h) (Or.inr ⟨by rfl,rfl⟩) ?_ ?_
            rotate_left
            ·simp only [Act.put,sa_,s0_,ss_,i64_w,i32_w]
             rfl
            refine pure_ (i:=7) (N:=some 102) (v:=undef) (a':=?_) #[true,true,true,true,true,true,true,true,false,false,false] rfl rfl (any_of HT_.out (by kernel_rfl)) (fun _ _ _ h=>h) (Or.inr ⟨by rfl,rfl⟩) ?_ ?_
            rotate_left
            ·simp only [Act.put,sa_,s0_,ss_,i64_w,i32_w]
             rfl
            refine pure_ (i:=8) (N:=some 103) (v:=?_) (a':=?_) #[true,true,true,true,true,true,true,true,true,false,false] rfl rfl (any_of HT_.out (by kernel_rfl)) (fun _ _ _ h=>h) (Or.inl ⟨by rfl,?_⟩) ?_ ?_
            rotate_left
            ·intro w'
             go_simp
             with_reducible rfl
            rotate_left
            ·simp only [Act.put,sa_,s0_,ss_,i64_w,i32_w]
             rfl
            refine one_ (i:=9) (N:=none) #[true,true,true,true,true,true,true,true,true,true,false] rfl rfl (one_of HT_.out (by kernel_rfl)) (by decide) (fun K hK=>?_)
            have hs82:w81.cell? ⟨gb221,0,none⟩=some (.int .i64 0):=(blk_cell BK221.out 0).trans rfl
            have hfs82:=blk_frozen BK221.out 0
            have hns82_1:=NB222_221.out
            have hns82_2:=NB226_221.out
            have hms82_1:=NB221_222.out
            have hms82_2:=NB221_226.out
            have hs83:w81.cell? ⟨gb221,1,none⟩=some (.int .i64 0):=(blk_cell BK221.out 1).trans rfl
            have hfs83:=blk_frozen BK221.out 1
            have hns83_1:=NB222_221.out
            have hns83_2:=NB226_221.out
            have hms83_1:=NB221_222.out
            have hms83_2:=NB221_226.out
            have hs84:w81.cell? ⟨gb221,2,none⟩=some (.int .i64 0):=(blk_cell BK221.out 2).trans rfl
            have hfs84:=blk_frozen BK221.out 2
            have hns84_1:=NB222_221.out
            have hns84_2:=NB226_221.out
            have hms84_1:=NB221_222.out
            have hms84_2:=NB221_226.out
            have hs85:w81.cell? ⟨gb221,3,none⟩=some (.string (⟨#[]⟩:ByteArray)):=(blk_cell BK221.out 3).trans rfl
            have hfs85:=blk_frozen BK221.out 3
            have hns85_1:=NB222_221.out
            have hns85_2:=NB226_221.out
            have hms85_1:=NB221_222.out
            have hms85_2:=NB221_226.out
            have hs86:w81.cell? ⟨gb221,4,none⟩=some (.string (⟨#[]⟩:ByteArray)):=(blk_cell BK221.out 4).trans rfl
            have hfs86:=blk_frozen BK221.out 4
            have hns86_1:=NB222_221.out
            have hns86_2:=NB226_221.out
            have hms86_1:=NB221_222.out
            have hms86_2:=NB221_226.out
            have hs87:w81.cell? ⟨gb221,5,none⟩=some (.int .i64 0):=(blk_cell BK221.out 5).trans rfl
            have hfs87:=blk_frozen BK221.out 5
            have hns87_1:=NB222_221.out
            have hns87_2:=NB226_221.out
            have hms87_1:=NB221_222.out
            have hms87_2:=NB221_226.out
            refine skip_ (w1:=?_) (by rfl) rfl ?_ ?_
            rotate_left
            ·go_simp
             rfl
            refine hK.out _ _ ⟨((cell_far (p:=⟨gb221,_,none⟩) NB222_221.out _).trans (((cell_far (p:=⟨gb221,_,none⟩) NB222_221.out _).trans (((cell_far (p:=⟨gb221,_,none⟩) NB222_221.out _).trans (((cell_far (p:=⟨gb221,_,none⟩) NB222_221.out _).trans (((cell_far (p:=⟨gb221,_,none⟩) NB222_221.out _).trans (((cell_far (p:=⟨gb221,_,none⟩) NB222_221.out _).trans (hHeld.1)))))))))))),((cell_far (p:=⟨gb221,_,none⟩) NB222_221.out _).trans (((cell_far (p:=⟨gb221,_,none⟩) NB222_221.out _).trans (((cell_far (p:=⟨gb221,_,none⟩) NB222_221.out _).trans (((cell_far (p:=⟨gb221,_,none⟩) NB222_221.out _).trans (((cell_far (p:=⟨gb221,_,none⟩) NB222_221.out _).trans (((cell_far (p:=⟨gb221,_,none⟩) NB222_221.out _).trans (hHeld.2.1)))))))))))),((cell_far (p:=⟨gb221,_,none⟩) NB222_221.out _).trans (((cell_far (p:=⟨gb221,_,none⟩) NB222_221.out _).trans (((cell_far (p:=⟨gb221,_,none⟩) NB222_221.out _).trans (((cell_far (p:=⟨gb221,_,none⟩) NB222_221.out _).trans (((cell_far (p:=⟨gb221,_,none⟩) NB222_221.out _).trans (((cell_far (p:=⟨gb221,_,none⟩) NB222_221.out _).trans (hHeld.2.2.1)))))))))))),((cell_far (p:=⟨gb221,_,none⟩) NB222_221.out _).trans (((cell_far (p:=⟨gb221,_,none⟩) NB222_221.out _).trans (((cell_far (p:=⟨gb221,_,none⟩) NB222_221.out _).trans (((cell_far (p:=⟨gb221,_,none⟩) NB222_221.out _).trans (((cell_far (p:=⟨gb221,_,none⟩) NB222_221.out _).trans (((cell_far (p:=⟨gb221,_,none⟩) NB222_221.out _).trans (hHeld.2.2.2.1)))))))))))),((cell_far (p:=⟨gb221,_,none⟩) NB222_221.out _).trans (((cell_far (p:=⟨gb221,_,none⟩) NB222_221.out _).trans (((cell_far (p:=⟨gb221,_,none⟩) NB222_221.out _).trans (((cell_far (p:=⟨gb221,_,none⟩) NB222_221.out _).trans (((cell_far (p:=⟨gb221,_,none⟩) NB222_221.out _).trans (((cell_far (p:=⟨gb221,_,none⟩) NB222_221.out _).trans (hHeld.2.2.2.2.1)))))))))))),((cell_far (p:=⟨gb221,_,none⟩) NB222_221.out _).trans (((cell_far (p:=⟨gb221,_,none⟩) NB222_221.out _).trans (((cell_far (p:=⟨gb221,_,none⟩) NB222_221.out _).trans (((cell_far (p:=⟨gb221,_,none⟩) NB222_221.out _).trans (((cell_far (p:=⟨gb221,_,none⟩) NB222_221.out _).trans (((cell_far (p:=⟨gb221,_,none⟩) NB222_221.out _).trans (hHeld.2.2.2.2.2))))))))))))⟩ (fun hHeld=>?_)
            clear hK K
            refine pure_ (i:=10) (N:=some 3) (v:=?_) (a':=?_) #[true,true,true,true,true,true,true,true,true,true,true] rfl rfl (any_of HT_.out (by kernel_rfl)) (fun _ _ _ h=>h) (Or.inl ⟨by rfl,?_⟩) ?_ ?_
            rotate_left
            ·intro w'
             go_simp
             with_reducible rfl
            rotate_left
            ·simp only [Act.put,sa_,s0_,ss_,i64_w,i32_w]
             rfl
            refine done_ (done_of HT_.out (by kernel_rfl)) ?_
            try go_wp2
            refine bodyPost_ret (results_ct rfl _ _ gb221 23 #[.int .i64 t243,.int .i64 t244,.int .i64 t245,.string t246,.string t247,.int .i64 t248] (0,0) _ rfl (by (with_reducible repeat (first | refine blk_drewN ?_ _ | refine blk_drew ?_ | refine blk_alloc ?_ _));refine blk_put (cs:=#[.int .i64 t243,.int .i64 t244,.int .i64 t245,.string t246,.string t247,.int .i64 0]) ?_ 5 _ rfl;(with_reducible repeat (first | refine blk_drewN ?_ _ | refine blk_drew ?_ | refine blk_alloc ?_ _));refine blk_put (cs:=#[.int .i64 t243,.int .i64 t244,.int .i64 t245,.string t246,.string (⟨#[]⟩:ByteArray),.int .i64 0]) ?_ 4 _ rfl;(with_reducible repeat (first | refine blk_drewN ?_ _ | refine blk_drew ?_ | refine blk_alloc ?_ _));refine blk_put (cs:=#[.int .i64 t243,.int .i64 t244,.int .i64 t245,.string (⟨#[]⟩:ByteArray),.string (⟨#[]⟩:ByteArray),.int .i64 0]) ?_ 3 _ rfl;(with_reducible repeat (first | refine blk_drewN ?_ _ | refine blk_drew ?_ | refine blk_alloc ?_ _));refine blk_put (cs:=#[.int .i64 t243,.int .i64 t244,.int .i64 0,.string (⟨#[]⟩:ByteArray),.string (⟨#[]⟩:ByteArray),.int .i64 0]) ?_ 2 _ rfl;(with_reducible repeat (first | refine blk_drewN ?_ _ | refine blk_drew ?_ | refine blk_alloc ?_ _));refine blk_put (cs:=#[.int .i64 t243,.int .i64 0,.int .i64 0,.string (⟨#[]⟩:ByteArray),.string (⟨#[]⟩:ByteArray),.int .i64 0]) ?_ 1 _ rfl;(with_reducible repeat (first | refine blk_drewN ?_ _ | refine blk_drew ?_ | refine blk_alloc ?_ _));refine blk_put (cs:=#[.int .i64 0,.int .i64 0,.int .i64 0,.string (⟨#[]⟩:ByteArray),.string (⟨#[]⟩:ByteArray),.int .i64 0]) ?_ 0 _ rfl;(with_reducible repeat (first | refine blk_drewN ?_ _ | refine blk_drew ?_ | refine blk_alloc ?_ _));exact BK221.out) Tryd.underlying23 rfl (by kernel_rfl)) rfl ?_
            exact ⟨by first | rfl | (simp [errW_none,errW_some] <;> rfl) | (simp [*,errW_none,errW_some] <;> rfl),by repeat (first | (with_reducible first | exact HB.out | apply below_alloc | apply pw_below_drewN | apply below_drew1 | refine below_set ?_ GE221.out | refine below_set ?_ GE222.out | refine below_set ?_ GE226.out) | exact HB.out)⟩
          cases gk with
          | zero=>exact absurd HK.out (by omega)
          | succ k1 =>
           have hlen:F1.data.toList.length=F1.size:=rfl
           have hd:F1.data.toList.drop pos=F1[pos] :: F1.data.toList.drop (pos+1):=List.drop_eq_getElem_cons (by omega)
           have hb0:(F1[pos]).toNat<128:=AS.out _ (List.mem_of_mem_drop (i:=pos) (by rw [hd];exact List.mem_cons_self ..))
           have hnx:∀ ty,(Instr.next (.pointer (some ⟨gi,0,none⟩)) true ty).run Tryd.prog wr=_:=fun ty=>Lib.run_next_ascii_at wr gi F1 pos ty HI.out hp hb0
           have HA':=HA.out
           rw [hd] at HA'
           clear HA hd hb0
           have HI2:=Aside0.mk (Lib.iterAt_heap wr gi F1 pos (pos+1) HI.out)
           have BKA:=Aside0.mk ((Lib.iterAt_other wr gi gb221 F1 (pos+1) N221.out).trans BK221.out)
           have BKB:=Aside0.mk ((Lib.iterAt_other wr gi gb222 F1 (pos+1) N222.out).trans BK222.out)
           have BKC:=Aside0.mk ((Lib.iterAt_other wr gi gb226 F1 (pos+1) N226.out).trans BK226.out)
           have RI2:=Aside0.mk (RI_.iterAt RI.out F1 (pos+1))
           have HB2:=Aside0.mk (Lib.below_iterAt HB.out HGI.out F1 (pos+1))
           clear HI BK221 BK222 BK226 RI HB
           generalize wr.iterAt gi F1 (pos+1)=w2 at hnx HI2 BKA BKB BKC RI2 HB2
           have HI:=HI2
           have BK221:=BKA
           have BK222:=BKB
           have BK226:=BKC
           have RI:=RI2
           have HB:=HB2
           clear HI2 BKA BKB BKC RI2 HB2
           generalize F1[pos]=c at hnx HA'
           subst hF1
           have hps:pos<1000:=by have:=AZ.out;omega
           simp only [Y4.g] at HA'
           obtain ⟨ji,hji⟩:∃ j_:Int,(pos:Int)+1=j_:=⟨_,rfl⟩
           have hjiw:IntKind.i64.wrap ((pos:Int)+1)=ji:=by rw [← hji];exact wrap_small_ (by omega) (by omega)
           rw [hji] at HA'
           by_cases cq:ji<(x227000_19.length:Int)
           case neg=>rw [if_neg cq] at HA';cases HA'
           rw [if_pos cq] at HA'
           have cp:0≤ji:=by omega
           obtain ⟨ad,ead,hadB,hadC,hxad⟩:=RI.out ji cp cq
           subst ead
           have cpb:=eq_true cp
           have cqb:=eq_true cq
           obtain ⟨wd,hwd⟩:∃ x_,rdOf ByteArray.empty x227000_19 ji=x_:=⟨_,rfl⟩
           rw [hwd] at hxad HA'
           have hcz226:w2.cell? ⟨gb226,0,none⟩=some (.slice (some ad) x227000_19.length co37):=(blk_cell BK226.out 0).trans rfl
           have toc:∀ n:Nat,n<256→¬ c=UInt8.ofNat n→((c.toNat:Int) == (n:Int))=false:=fun n hn h_=>beq_eq_false_iff_ne.mpr (fun he=>h_ (by apply UInt8.toNat_inj.1;rw [UInt8.toNat_ofNat_of_lt' hn];omega))
           by_cases c65:c=65
           ·rw [if_pos c65] at HA'
            have cb65:((c.toNat:Int) == 65)=true:=by rw [c65];rfl
            clear c65 toc
            obtain ⟨⟨n1,n2⟩,An,HA'⟩:=Option.bind_eq_some_iff.mp HA'
            have HA:=Aside0.mk HA'
            clear HA'
            go_wp2_with (first | ((with_reducible refine gate_callee (f:=21) rfl ?_);refine goesL_ (some 79) rfl rfl Tryd.func21 (by kernel_rfl) rfl #[.string wd] rfl (by (try simp only [List.map_toArray,List.map_cons,List.map_nil]);first | done | rfl) ?_;(with_reducible refine (Y23.calls wd n1 n2 _ An (tab_below htab_ HB.out)).mono ?_);rintro e w3 ⟨rfl,hb⟩;refine ⟨_,rfl,?_⟩;have n0_:=Aside0.mk (blk_below BK221.out hb);have n1_:=Aside0.mk (blk_below BK222.out hb);have n2_:=Aside0.mk (blk_below BK226.out hb);have n3_:=Aside0.mk (below_step HB.out hb);have n4_:=Aside0.mk (RI_.below RI.out hb (Nat.le_of_lt (blk_lt HI.out)));have n5_:=Aside0.mk (blk_below HI.out hb);clear BK221 BK222 BK226 HB RI HI;have BK221:=n0_;have BK222:=n1_;have BK226:=n2_;have HB:=n3_;have RI:=n4_;have HI:=n5_;clear n0_ n1_ n2_ n3_ n4_ n5_ hb;have hcz_:w3.cell? ⟨gb222,1,none⟩=some (.int .i64 a_):=(blk_cell BK222.out 1).trans rfl;have hfz_:=blk_frozen BK222.out 1))
            go_roundg k1
            case measure=>have:=HK1.out;omega
            case rel=>exact ⟨pos+1,n1,b_,d_,e_,HA,⟨by have:=HK.out;omega⟩,⟨by have:=HK1.out;omega⟩,⟨blk_farO HI.out N222.out.symm _⟩,⟨blk_far BK221.out NB221_222.out _⟩,⟨blk_put BK222.out 1 _ rfl⟩,⟨blk_far BK226.out NB226_222.out _⟩,⟨RI_.set RI.out _⟩,⟨below_set HB.out GE222.out⟩⟩
           ·rw [if_neg c65] at HA'
            have cb65:((c.toNat:Int) == 65)=false:=toc 65 (by decide) c65
            by_cases c66:c=66
            ·rw [if_pos c66] at HA'
             have cb66:((c.toNat:Int) == 66)=true:=by rw [c66];rfl
             clear c65 c66 toc
             obtain ⟨⟨n1,n2⟩,An,HA'⟩:=Option.bind_eq_some_iff.mp HA'
             have HA:=Aside0.mk HA'
             clear HA'
             go_wp2_with (first | ((with_reducible refine gate_callee (f:=21) rfl ?_);refine goesL_ (some 87) rfl rfl Tryd.func21 (by kernel_rfl) rfl #[.string wd] rfl (by (try simp only [List.map_toArray,List.map_cons,List.map_nil]);first | done | rfl) ?_;(with_reducible refine (Y23.calls wd n1 n2 _ An (tab_below htab_ HB.out)).mono ?_);rintro e w3 ⟨rfl,hb⟩;refine ⟨_,rfl,?_⟩;have n0_:=Aside0.mk (blk_below BK221.out hb);have n1_:=Aside0.mk (blk_below BK222.out hb);have n2_:=Aside0.mk (blk_below BK226.out hb);have n3_:=Aside0.mk (below_step HB.out hb);have n4_:=Aside0.mk (RI_.below RI.out hb (Nat.le_of_lt (blk_lt HI.out)));have n5_:=Aside0.mk (blk_below HI.out hb);clear BK221 BK222 BK226 HB RI HI;have BK221:=n0_;have BK222:=n1_;have BK226:=n2_;have HB:=n3_;have RI:=n4_;have HI:=n5_;clear n0_ n1_ n2_ n3_ n4_ n5_ hb;have hcz_:w3.cell? ⟨gb222,2,none⟩=some (.int .i64 b_):=(blk_cell BK222.out 2).trans rfl;have hfz_:=blk_frozen BK222.out 2))
             go_roundg k1
             case measure=>have:=HK1.out;omega
             case rel=>exact ⟨pos+1,a_,n1,d_,e_,HA,⟨by have:=HK.out;omega⟩,⟨by have:=HK1.out;omega⟩,⟨blk_farO HI.out N222.out.symm _⟩,⟨blk_far BK221.out NB221_222.out _⟩,⟨blk_put BK222.out 2 _ rfl⟩,⟨blk_far BK226.out NB226_222.out _⟩,⟨RI_.set RI.out _⟩,⟨below_set HB.out GE222.out⟩⟩
            ·rw [if_neg c66] at HA'
             have cb66:((c.toNat:Int) == 66)=false:=toc 66 (by decide) c66
             by_cases c75:c=75
             ·rw [if_pos c75] at HA'
              have cb75:((c.toNat:Int) == 75)=true:=by rw [c75];rfl
              clear c65 c66 c75 toc
              have HA:=Aside0.mk HA'
              clear HA'
              have hcz_:w2.cell? ⟨gb222,3,none⟩=some (.string d_):=(blk_cell BK222.out 3).trans rfl
              have hfz_:=blk_frozen BK222.out 3
              go_wp2
              go_roundg k1
              case measure=>have:=HK1.out;omega
              case rel=>exact ⟨pos+1,a_,b_,wd,e_,HA,⟨by have:=HK.out;omega⟩,⟨by have:=HK1.out;omega⟩,⟨blk_farO HI.out N222.out.symm _⟩,⟨blk_far BK221.out NB221_222.out _⟩,⟨blk_put BK222.out 3 _ rfl⟩,⟨blk_far BK226.out NB226_222.out _⟩,⟨RI_.set RI.out _⟩,⟨below_set HB.out GE222.out⟩⟩
             ·rw [if_neg c75] at HA'
              have cb75:((c.toNat:Int) == 75)=false:=toc 75 (by decide) c75
              clear c65 c66 c75 toc
              have HA:=Aside0.mk HA'
              clear HA'
              have hcz_:w2.cell? ⟨gb222,4,none⟩=some (.string e_):=(blk_cell BK222.out 4).trans rfl
              have hfz_:=blk_frozen BK222.out 4
              go_wp2
              go_roundg k1
              case measure=>have:=HK1.out;omega
              case rel=>exact ⟨pos+1,a_,b_,d_,wd,HA,⟨by have:=HK.out;omega⟩,⟨by have:=HK1.out;omega⟩,⟨blk_farO HI.out N222.out.symm _⟩,⟨blk_far BK221.out NB221_222.out _⟩,⟨blk_put BK222.out 4 _ rfl⟩,⟨blk_far BK226.out NB226_222.out _⟩,⟨RI_.set RI.out _⟩,⟨below_set HB.out GE222.out⟩⟩
 ·rw [if_neg c3] at H
  exact absurd H (by simp)

/-! ### Y26: function 5 -/
def Y26.f (k:Nat) (a0:ByteArray):Option (Int × Int × Int × ByteArray × ByteArray × Int × Int):=(Y28.f k (([a0]:List ByteArray))).bind fun t255=>(if t255=true then (some (0,0,0,(⟨#[]⟩:ByteArray),(⟨#[]⟩:ByteArray),0,2)) else ((Y4.f k a0).bind fun bt256=>(if bt256.2.2.2.2.2.2=true then (some (bt256.1,bt256.2.1,bt256.2.2.1,bt256.2.2.2.1,bt256.2.2.2.2.1,bt256.2.2.2.2.2.1,0)) else (some (0,0,0,(⟨#[]⟩:ByteArray),(⟨#[]⟩:ByteArray),0,3)))))
theorem Y26.mono:∀ a0 k,LeO (Y26.f k a0) (Y26.f (k+1) a0):=by
 intro a0 k
 unfold Y26.f
 repeat' first
   | (with_reducible exact Y4.mono _ _)
   | (with_reducible exact Y28.mono _ _)
   | (with_reducible exact LeO.refl _)
   | (with_reducible exact LeO.none _)
   | (with_reducible refine LeO.ite ?_ ?_)
   | (with_reducible refine LeO.bind ?_ (fun _=>?_))
   | exact Y4.mono _ _
   | exact Y28.mono _ _
   | exact LeO.none _
   | refine LeO.ite ?_ ?_
   | refine LeO.bind ?_ (fun _=>?_)
set_option maxHeartbeats 8000000 in
set_option maxRecDepth 100000 in
theorem Y26.calls (k:Nat) (a0:ByteArray) (r1:Int) (r2:Int) (r3:Int) (r4:ByteArray) (r5:ByteArray) (r6:Int) (r7:Int) (w:World) (h:Y26.f k a0=some (r1,r2,r3,r4,r5,r6,r7)) (htab_:Tab_ w) :
  Calls Tryd.prog 5 #[.string a0] w fun e w'=>e = .returned (.agg #[.int .i64 r1,.int .i64 r2,.int .i64 r3,.string r4,.string r5,.int .i64 r6,.int .i64 r7])∧Below w.heap.size w w':=by
 have hu25:=Tryd.underlying25
 have hu23:=Tryd.underlying23
 have HB:=Aside0.mk (Below.refl w.heap.size w)
 have H:((Y28.f k (([a0]:List ByteArray))).bind fun t255=>(if t255=true then (some (0,0,0,(⟨#[]⟩:ByteArray),(⟨#[]⟩:ByteArray),0,2)) else ((Y4.f k a0).bind fun bt256=>(if bt256.2.2.2.2.2.2=true then (some (bt256.1,bt256.2.1,bt256.2.2.1,bt256.2.2.2.1,bt256.2.2.2.2.1,bt256.2.2.2.2.2.1,0)) else (some (0,0,0,(⟨#[]⟩:ByteArray),(⟨#[]⟩:ByteArray),0,3))))))=some (r1,r2,r3,r4,r5,r6,r7):=h
 clear h
 obtain ⟨y252,hy252⟩:∃ y_:List ByteArray,y_=(([a0]:List ByteArray)):=⟨_,rfl⟩
 replace H:((Y28.f k y252).bind fun t255=>(if t255=true then (some (0,0,0,(⟨#[]⟩:ByteArray),(⟨#[]⟩:ByteArray),0,2)) else ((Y4.f k a0).bind fun bt256=>(if bt256.2.2.2.2.2.2=true then (some (bt256.1,bt256.2.1,bt256.2.2.1,bt256.2.2.2.1,bt256.2.2.2.2.1,bt256.2.2.2.2.2.1,0)) else (some (0,0,0,(⟨#[]⟩:ByteArray),(⟨#[]⟩:ByteArray),0,3))))))=some (r1,r2,r3,r4,r5,r6,r7):=by first | (rw [hy252];with_reducible exact H) | (have H2_:=(Option.bind_some _ _).symm.trans H;rw [hy252];with_reducible exact H2_) | (have H2_:=(Option.bind_some _ _).symm.trans H;with_reducible exact H2_) | with_reducible exact H | (rw [hy252];exact H) | exact H
 have Ny252:=Aside0.mk hy252
 clear hy252
 replace H:=Option.bind_eq_some_iff.mp H
 obtain ⟨t255,A20,H⟩:=H
 replace H:(if t255=true then (some (0,0,0,(⟨#[]⟩:ByteArray),(⟨#[]⟩:ByteArray),0,2)) else ((Y4.f k a0).bind fun bt256=>(if bt256.2.2.2.2.2.2=true then (some (bt256.1,bt256.2.1,bt256.2.2.1,bt256.2.2.2.1,bt256.2.2.2.2.1,bt256.2.2.2.2.2.1,0)) else (some (0,0,0,(⟨#[]⟩:ByteArray),(⟨#[]⟩:ByteArray),0,3)))))=some (r1,r2,r3,r4,r5,r6,r7):=H
 have A2:=Aside0.mk A20
 clear A20
 by_cases c3:t255=true
 ·subst c3
  have H1:(some (0,0,0,(⟨#[]⟩:ByteArray),(⟨#[]⟩:ByteArray),0,2))=some (r1,r2,r3,r4,r5,r6,r7):=by rw [if_pos rfl] at H;exact H
  clear H
  have H:=H1
  clear H1
  simp only [Option.some.injEq,Prod.mk.injEq] at H
  obtain ⟨rfl,rfl,rfl,rfl,rfl,rfl,rfl⟩:=H
  go_enter Tryd.func5,Tryd.ntmps5
  go_wp2_with (first | ((with_reducible refine gate_dst (N:=2) rfl ?_);refine box_event ?hg (N:=2) ?hd (cs:=#[.int .i64 0,.int .i64 0,.int .i64 0,.string (⟨#[]⟩:ByteArray),.string (⟨#[]⟩:ByteArray),.int .i64 0,.int .i64 0]) (t:=25) ?hr ?_;(case hd=>rfl);(case hg=>rfl);(case hr=>first | (go_simp;done) | (go_simp;rfl));intro gb251 hg w4 hbox hb;have n0_:=Aside0.mk (below_step (by repeat (first | (with_reducible first | exact HB.out | apply below_alloc | apply pw_below_drewN | apply below_drew1) | exact HB.out)) hb);have n1_:=Aside0.mk (hbox);have n2_:=Aside0.mk ((by rw [hg];exact (below_size (by repeat (first | (with_reducible first | exact HB.out | apply below_alloc | apply pw_below_drewN | apply below_drew1) | exact HB.out))):w.heap.size≤gb251));have n3_:=Aside0.mk ((by rw [hg];exact (below_size (by repeat (first | (with_reducible first | exact HB.out | apply below_alloc | apply pw_below_drewN | apply below_drew1) | exact HB.out))):w.heap.size≤gb251));clear HB;have HB:=n0_;have BK251:=n1_;have GW251:=n2_;have GE251:=n3_;clear n0_ n1_ n2_ n3_;clear hb hbox hg) | ((with_reducible refine gate_dst (N:=6) rfl ?_);refine Kd.R_lit Kd.string _ 9 ?hg (N:=6) ?hd (xs:=([a0]:List ByteArray)) (inner:=[.string a0]) (ok:=fun _=>True) (okp:=fun _=>True) ?hr ?hp (fun _ hk=>hk) trivial (Below.refl _ _) (Nat.le_refl _) (by simp) ?_;(case hd=>rfl);(case hg=>rfl);(case hr=>first | (go_simp;done) | (go_simp;rfl));(case hp=>exact (Reps.one (show Kd.M Kd.string _ _ _ a0 [.string a0] from rfl) (Reps.none _ _)));intro v253 w5 ho6 hb hg_ hnew_;clear hg_ hnew_;(first | rw [← Ny252.out] at ho6 | (simp only [Int.reduceToNat] at ho6;rw [← Ny252.out] at ho6));have n0_:=Aside0.mk (Kd.R_lower ho6 (below_size (by repeat (first | (with_reducible first | exact HB.out | apply below_alloc | apply pw_below_drewN | apply below_drew1 | refine below_set ?_ GE251.out) | exact HB.out))));have n1_:=Aside0.mk (blk_below (g:=gb251) (o:=.cells #[.int .i64 0,.int .i64 0,.int .i64 0,.string (⟨#[]⟩:ByteArray),.string (⟨#[]⟩:ByteArray),.int .i64 0,.int .i64 0] 25 (0,0)) (by (with_reducible repeat (first | refine blk_drewN ?_ _ | refine blk_drew ?_ | refine blk_alloc ?_ _));exact BK251.out) hb);have n2_:=Aside0.mk (below_step (by repeat (first | (with_reducible first | exact HB.out | apply below_alloc | apply pw_below_drewN | apply below_drew1 | refine below_set ?_ GE251.out) | exact HB.out)) hb);clear BK251;clear HB;have HO254:=n0_;have BK251:=n1_;have HB:=n2_;clear n0_ n1_ n2_;clear hb ho6;obtain ⟨Ao7,co7,eo7⟩:=Kd.R_slice HO254.out;subst eo7) | ((with_reducible refine gate_callee (f:=12) rfl ?_);refine goesL_ (some 7) rfl rfl Tryd.func12 (by kernel_rfl) rfl #[.slice Ao7 y252.length co7] rfl (by (try simp only [List.map_toArray,List.map_cons,List.map_nil]);first | done | rfl | (simp only [List.length_drop,List.length_take];rfl)) ?_;(with_reducible refine (Y28.calls k _ _ y252 true _ ?side1 ?side2 A2.out).mono ?_);(case side1=>repeat (first | exact (Kd.R_reads' HO254.out).2.2 | (with_reducible refine Kd.C_alloc ?_ _) | (with_reducible refine Kd.C_drewN ?_ _) | (with_reducible refine Kd.C_drew ?_)));(case side2=>exact (Kd.R_reads' HO254.out).2.1);rintro e w' ⟨rfl,⟨nd,rfl⟩⟩;refine ⟨_,rfl,?_⟩;(try (rw [drewN_self w5];generalize hq_:World.drewN w5 _=w5;have n0_:Aside0 (Kd.R Kd.string 9 w5 w.heap.size (fun _=>True) (.slice Ao7 y252.length co7) y252):=⟨by rw [← hq_];exact (by (with_reducible repeat (first | apply Kd.R_alloc | apply Kd.R_drewN | apply Kd.R_drew));exact HO254.out)⟩;have n1_:Aside0 (w5.heap[gb251]? = some (.cells #[.int .i64 0,.int .i64 0,.int .i64 0,.string (⟨#[]⟩:ByteArray),.string (⟨#[]⟩:ByteArray),.int .i64 0,.int .i64 0] 25 (0,0))):=⟨by rw [← hq_];exact (by (with_reducible repeat (first | refine blk_drewN ?_ _ | refine blk_drew ?_ | refine blk_alloc ?_ _));exact BK251.out)⟩;have n2_:Aside0 (Below w.heap.size w w5):=⟨by rw [← hq_];exact (by repeat (first | (with_reducible first | exact HB.out | apply below_alloc | apply pw_below_drewN | apply below_drew1 | refine below_set ?_ GE251.out) | exact HB.out))⟩;clear HO254 BK251 HB hq_;have HO254:=n0_;have BK251:=n1_;have HB:=n2_;clear n0_ n1_ n2_));have hcz8_0:w5.cell? ⟨gb251,0,none⟩=some (.int .i64 0):=(blk_cell BK251.out 0).trans rfl;have hcz8_1:w5.cell? ⟨gb251,1,none⟩=some (.int .i64 0):=(blk_cell BK251.out 1).trans rfl;have hcz8_2:w5.cell? ⟨gb251,2,none⟩=some (.int .i64 0):=(blk_cell BK251.out 2).trans rfl;have hcz8_3:w5.cell? ⟨gb251,3,none⟩=some (.string (⟨#[]⟩:ByteArray)):=(blk_cell BK251.out 3).trans rfl;have hcz8_4:w5.cell? ⟨gb251,4,none⟩=some (.string (⟨#[]⟩:ByteArray)):=(blk_cell BK251.out 4).trans rfl;have hcz8_5:w5.cell? ⟨gb251,5,none⟩=some (.int .i64 0):=(blk_cell BK251.out 5).trans rfl;have hcz8_6:w5.cell? ⟨gb251,6,none⟩=some (.int .i64 0):=(blk_cell BK251.out 6).trans rfl;have hfz8_0:=blk_frozen BK251.out 0;have hfz8_1:=blk_frozen BK251.out 1;have hfz8_2:=blk_frozen BK251.out 2;have hfz8_3:=blk_frozen BK251.out 3;have hfz8_4:=blk_frozen BK251.out 4;have hfz8_5:=blk_frozen BK251.out 5;have hfz8_6:=blk_frozen BK251.out 6))
  refine bodyPost_ret (results_cell_row rfl _ _ gb251 25 #[.int .i64 0,.int .i64 0,.int .i64 0,.string (⟨#[]⟩:ByteArray),.string (⟨#[]⟩:ByteArray),.int .i64 0,.int .i64 2] (0,0) _ rfl (by (with_reducible repeat (first | refine blk_drewN ?_ _ | refine blk_drew ?_ | refine blk_alloc ?_ _));refine blk_put (cs:=#[.int .i64 0,.int .i64 0,.int .i64 0,.string (⟨#[]⟩:ByteArray),.string (⟨#[]⟩:ByteArray),.int .i64 0,.int .i64 0]) ?_ 6 _ rfl;(with_reducible repeat (first | refine blk_drewN ?_ _ | refine blk_drew ?_ | refine blk_alloc ?_ _));refine blk_put (cs:=#[.int .i64 0,.int .i64 0,.int .i64 0,.string (⟨#[]⟩:ByteArray),.string (⟨#[]⟩:ByteArray),.int .i64 0,.int .i64 0]) ?_ 5 _ rfl;(with_reducible repeat (first | refine blk_drewN ?_ _ | refine blk_drew ?_ | refine blk_alloc ?_ _));refine blk_put (cs:=#[.int .i64 0,.int .i64 0,.int .i64 0,.string (⟨#[]⟩:ByteArray),.string (⟨#[]⟩:ByteArray),.int .i64 0,.int .i64 0]) ?_ 4 _ rfl;(with_reducible repeat (first | refine blk_drewN ?_ _ | refine blk_drew ?_ | refine blk_alloc ?_ _));refine blk_put (cs:=#[.int .i64 0,.int .i64 0,.int .i64 0,.string (⟨#[]⟩:ByteArray),.string (⟨#[]⟩:ByteArray),.int .i64 0,.int .i64 0]) ?_ 3 _ rfl;(with_reducible repeat (first | refine blk_drewN ?_ _ | refine blk_drew ?_ | refine blk_alloc ?_ _));refine blk_put (cs:=#[.int .i64 0,.int .i64 0,.int .i64 0,.string (⟨#[]⟩:ByteArray),.string (⟨#[]⟩:ByteArray),.int .i64 0,.int .i64 0]) ?_ 2 _ rfl;(with_reducible repeat (first | refine blk_drewN ?_ _ | refine blk_drew ?_ | refine blk_alloc ?_ _));refine blk_put (cs:=#[.int .i64 0,.int .i64 0,.int .i64 0,.string (⟨#[]⟩:ByteArray),.string (⟨#[]⟩:ByteArray),.int .i64 0,.int .i64 0]) ?_ 1 _ rfl;(with_reducible repeat (first | refine blk_drewN ?_ _ | refine blk_drew ?_ | refine blk_alloc ?_ _));refine blk_put (cs:=#[.int .i64 0,.int .i64 0,.int .i64 0,.string (⟨#[]⟩:ByteArray),.string (⟨#[]⟩:ByteArray),.int .i64 0,.int .i64 0]) ?_ 0 _ rfl;(with_reducible repeat (first | refine blk_drewN ?_ _ | refine blk_drew ?_ | refine blk_alloc ?_ _));exact BK251.out) Tryd.underlying25 rfl (by kernel_rfl)) rfl ?_
  exact ⟨by first | rfl | (simp [errW_none,errW_some] <;> rfl) | (simp [*,errW_none,errW_some] <;> rfl),by repeat (first | (with_reducible first | exact HB.out | apply below_alloc | apply pw_below_drewN | apply below_drew1 | refine below_set ?_ GE251.out) | exact HB.out)⟩
 ·replace c3:=Bool.eq_false_iff.mpr c3
  subst c3
  have H1:((Y4.f k a0).bind fun bt256=>(if bt256.2.2.2.2.2.2=true then (some (bt256.1,bt256.2.1,bt256.2.2.1,bt256.2.2.2.1,bt256.2.2.2.2.1,bt256.2.2.2.2.2.1,0)) else (some (0,0,0,(⟨#[]⟩:ByteArray),(⟨#[]⟩:ByteArray),0,3))))=some (r1,r2,r3,r4,r5,r6,r7):=by rw [if_neg (show ¬ (false=true) by decide)] at H;exact H
  clear H
  have H:=H1
  clear H1
  replace H:=Option.bind_eq_some_iff.mp H
  obtain ⟨⟨t256,t257,t258,t259,t260,t261,t262⟩,A90,H⟩:=H
  replace H:(if t262=true then (some (t256,t257,t258,t259,t260,t261,0)) else (some (0,0,0,(⟨#[]⟩:ByteArray),(⟨#[]⟩:ByteArray),0,3)))=some (r1,r2,r3,r4,r5,r6,r7):=H
  have A9:=Aside0.mk A90
  clear A90
  by_cases c10:t262=true
  ·subst c10
   have H1:(some (t256,t257,t258,t259,t260,t261,0))=some (r1,r2,r3,r4,r5,r6,r7):=by rw [if_pos rfl] at H;exact H
   clear H
   have H:=H1
   clear H1
   simp only [Option.some.injEq,Prod.mk.injEq] at H
   obtain ⟨rfl,rfl,rfl,rfl,rfl,rfl,rfl⟩:=H
   go_enter Tryd.func5,Tryd.ntmps5
   go_wp2_with (first | ((with_reducible refine gate_dst (N:=2) rfl ?_);refine box_event ?hg (N:=2) ?hd (cs:=#[.int .i64 0,.int .i64 0,.int .i64 0,.string (⟨#[]⟩:ByteArray),.string (⟨#[]⟩:ByteArray),.int .i64 0,.int .i64 0]) (t:=25) ?hr ?_;(case hd=>rfl);(case hg=>rfl);(case hr=>first | (go_simp;done) | (go_simp;rfl));intro gb251 hg w11 hbox hb;have n0_:=Aside0.mk (below_step (by repeat (first | (with_reducible first | exact HB.out | apply below_alloc | apply pw_below_drewN | apply below_drew1) | exact HB.out)) hb);have n1_:=Aside0.mk (hbox);have n2_:=Aside0.mk ((by rw [hg];exact (below_size (by repeat (first | (with_reducible first | exact HB.out | apply below_alloc | apply pw_below_drewN | apply below_drew1) | exact HB.out))):w.heap.size≤gb251));have n3_:=Aside0.mk ((by rw [hg];exact (below_size (by repeat (first | (with_reducible first | exact HB.out | apply below_alloc | apply pw_below_drewN | apply below_drew1) | exact HB.out))):w.heap.size≤gb251));clear HB;have HB:=n0_;have BK251:=n1_;have GW251:=n2_;have GE251:=n3_;clear n0_ n1_ n2_ n3_;clear hb hbox hg) | ((with_reducible refine gate_dst (N:=6) rfl ?_);refine Kd.R_lit Kd.string _ 9 ?hg (N:=6) ?hd (xs:=([a0]:List ByteArray)) (inner:=[.string a0]) (ok:=fun _=>True) (okp:=fun _=>True) ?hr ?hp (fun _ hk=>hk) trivial (Below.refl _ _) (Nat.le_refl _) (by simp) ?_;(case hd=>rfl);(case hg=>rfl);(case hr=>first | (go_simp;done) | (go_simp;rfl));(case hp=>exact (Reps.one (show Kd.M Kd.string _ _ _ a0 [.string a0] from rfl) (Reps.none _ _)));intro v253 w12 ho13 hb hg_ hnew_;clear hg_ hnew_;(first | rw [← Ny252.out] at ho13 | (simp only [Int.reduceToNat] at ho13;rw [← Ny252.out] at ho13));have n0_:=Aside0.mk (Kd.R_lower ho13 (below_size (by repeat (first | (with_reducible first | exact HB.out | apply below_alloc | apply pw_below_drewN | apply below_drew1 | refine below_set ?_ GE251.out) | exact HB.out))));have n1_:=Aside0.mk (blk_below (g:=gb251) (o:=.cells #[.int .i64 0,.int .i64 0,.int .i64 0,.string (⟨#[]⟩:ByteArray),.string (⟨#[]⟩:ByteArray),.int .i64 0,.int .i64 0] 25 (0,0)) (by (with_reducible repeat (first | refine blk_drewN ?_ _ | refine blk_drew ?_ | refine blk_alloc ?_ _));exact BK251.out) hb);have n2_:=Aside0.mk (below_step (by repeat (first | (with_reducible first | exact HB.out | apply below_alloc | apply pw_below_drewN | apply below_drew1 | refine below_set ?_ GE251.out) | exact HB.out)) hb);clear BK251;clear HB;have HO254:=n0_;have BK251:=n1_;have HB:=n2_;clear n0_ n1_ n2_;clear hb ho13;obtain ⟨Ao14,co14,eo14⟩:=Kd.R_slice HO254.out;subst eo14) | ((with_reducible refine gate_callee (f:=12) rfl ?_);refine goesL_ (some 7) rfl rfl Tryd.func12 (by kernel_rfl) rfl #[.slice Ao14 y252.length co14] rfl (by (try simp only [List.map_toArray,List.map_cons,List.map_nil]);first | done | rfl | (simp only [List.length_drop,List.length_take];rfl)) ?_;(with_reducible refine (Y28.calls k _ _ y252 false _ ?side1 ?side2 A2.out).mono ?_);(case side1=>repeat (first | exact (Kd.R_reads' HO254.out).2.2 | (with_reducible refine Kd.C_alloc ?_ _) | (with_reducible refine Kd.C_drewN ?_ _) | (with_reducible refine Kd.C_drew ?_)));(case side2=>exact (Kd.R_reads' HO254.out).2.1);rintro e w' ⟨rfl,⟨nd,rfl⟩⟩;refine ⟨_,rfl,?_⟩;(try (rw [drewN_self w12];generalize hq_:World.drewN w12 _=w12;have n0_:Aside0 (Kd.R Kd.string 9 w12 w.heap.size (fun _=>True) (.slice Ao14 y252.length co14) y252):=⟨by rw [← hq_];exact (by (with_reducible repeat (first | apply Kd.R_alloc | apply Kd.R_drewN | apply Kd.R_drew));exact HO254.out)⟩;have n1_:Aside0 (w12.heap[gb251]? = some (.cells #[.int .i64 0,.int .i64 0,.int .i64 0,.string (⟨#[]⟩:ByteArray),.string (⟨#[]⟩:ByteArray),.int .i64 0,.int .i64 0] 25 (0,0))):=⟨by rw [← hq_];exact (by (with_reducible repeat (first | refine blk_drewN ?_ _ | refine blk_drew ?_ | refine blk_alloc ?_ _));exact BK251.out)⟩;have n2_:Aside0 (Below w.heap.size w w12):=⟨by rw [← hq_];exact (by repeat (first | (with_reducible first | exact HB.out | apply below_alloc | apply pw_below_drewN | apply below_drew1 | refine below_set ?_ GE251.out) | exact HB.out))⟩;clear HO254 BK251 HB hq_;have HO254:=n0_;have BK251:=n1_;have HB:=n2_;clear n0_ n1_ n2_))) | ((with_reducible refine gate_callee (f:=13) rfl ?_);refine goesL_ (some 11) rfl rfl Tryd.func13 (by kernel_rfl) rfl #[.string a0] rfl (by (try simp only [List.map_toArray,List.map_cons,List.map_nil]);first | done | rfl | (simp only [List.length_drop,List.length_take];rfl)) ?_;(with_reducible refine (Y4.calls k a0 t256 t257 t258 t259 t260 t261 true _ A9.out (tab_below htab_ (by repeat (first | (with_reducible first | exact HB.out | apply below_alloc | apply pw_below_drewN | apply below_drew1 | refine below_set ?_ GE251.out) | exact HB.out)))).mono ?_);rintro e w15 ⟨rfl,hb⟩;refine ⟨_,rfl,?_⟩;have n0_:=Aside0.mk (Kd.R_below (by (with_reducible repeat (first | apply Kd.R_alloc | apply Kd.R_drewN | apply Kd.R_drew));exact HO254.out) hb);have n1_:=Aside0.mk (blk_below (g:=gb251) (o:=.cells #[.int .i64 0,.int .i64 0,.int .i64 0,.string (⟨#[]⟩:ByteArray),.string (⟨#[]⟩:ByteArray),.int .i64 0,.int .i64 0] 25 (0,0)) (by (with_reducible repeat (first | refine blk_drewN ?_ _ | refine blk_drew ?_ | refine blk_alloc ?_ _));exact BK251.out) hb);have n2_:=Aside0.mk (below_step (by repeat (first | (with_reducible first | exact HB.out | apply below_alloc | apply pw_below_drewN | apply below_drew1 | refine below_set ?_ GE251.out) | exact HB.out)) hb);clear HO254;clear BK251;clear HB;have HO254:=n0_;have BK251:=n1_;have HB:=n2_;clear n0_ n1_ n2_;(try clear hb);(try clear hb2);(try clear hk);(try clear hi)) | ((with_reducible refine gate_dst (N:=3) rfl ?_);refine box_event ?hg (N:=3) ?hd (cs:=#[.int .i64 0,.int .i64 0,.int .i64 0,.string (⟨#[]⟩:ByteArray),.string (⟨#[]⟩:ByteArray),.int .i64 0]) (t:=23) ?hr ?_;(case hd=>rfl);(case hg=>rfl);(case hr=>first | (go_simp;done) | (go_simp;rfl));intro gb263 hg w16 hbox hb;have n0_:=Aside0.mk (Kd.R_below (by (with_reducible repeat (first | apply Kd.R_alloc | apply Kd.R_drewN | apply Kd.R_drew));exact HO254.out) hb);have n1_:=Aside0.mk (blk_below (g:=gb251) (o:=.cells #[.int .i64 0,.int .i64 0,.int .i64 0,.string (⟨#[]⟩:ByteArray),.string (⟨#[]⟩:ByteArray),.int .i64 0,.int .i64 0] 25 (0,0)) (by (with_reducible repeat (first | refine blk_drewN ?_ _ | refine blk_drew ?_ | refine blk_alloc ?_ _));exact BK251.out) hb);have n2_:=Aside0.mk (below_step (by repeat (first | (with_reducible first | exact HB.out | apply below_alloc | apply pw_below_drewN | apply below_drew1 | refine below_set ?_ GE251.out) | exact HB.out)) hb);have n3_:=Aside0.mk (hbox);have n4_:=Aside0.mk ((by rw [hg];exact (below_size (by repeat (first | (with_reducible first | exact HB.out | apply below_alloc | apply pw_below_drewN | apply below_drew1 | refine below_set ?_ GE251.out) | exact HB.out))):w.heap.size≤gb263));have n5_:=Aside0.mk ((by rw [hg];exact (below_size (by repeat (first | (with_reducible first | exact HB.out | apply below_alloc | apply pw_below_drewN | apply below_drew1 | refine below_set ?_ GE251.out) | exact HB.out))):w.heap.size≤gb263));have n6_:=Aside0.mk ((by rw [hg];exact Nat.ne_of_lt (blk_lt (g:=gb251) (o:=.cells #[.int .i64 0,.int .i64 0,.int .i64 0,.string (⟨#[]⟩:ByteArray),.string (⟨#[]⟩:ByteArray),.int .i64 0,.int .i64 0] 25 (0,0)) (by (with_reducible repeat (first | refine blk_drewN ?_ _ | refine blk_drew ?_ | refine blk_alloc ?_ _));exact BK251.out)):gb251≠gb263));have n7_:=Aside0.mk ((by rw [hg];exact Nat.ne_of_gt (blk_lt (g:=gb251) (o:=.cells #[.int .i64 0,.int .i64 0,.int .i64 0,.string (⟨#[]⟩:ByteArray),.string (⟨#[]⟩:ByteArray),.int .i64 0,.int .i64 0] 25 (0,0)) (by (with_reducible repeat (first | refine blk_drewN ?_ _ | refine blk_drew ?_ | refine blk_alloc ?_ _));exact BK251.out)):gb263≠gb251));clear HO254;clear BK251;clear HB;have HO254:=n0_;have BK251:=n1_;have HB:=n2_;have BK263:=n3_;have GW263:=n4_;have GE263:=n5_;have NB251_263:=n6_;have NB263_251:=n7_;clear n0_ n1_ n2_ n3_ n4_ n5_ n6_ n7_;clear hb hbox hg;have hnb17:=NB263_251.out;have hnc17:=NB251_263.out;have hcz18_0:w16.cell? ⟨gb263,0,none⟩=some (.int .i64 0):=(blk_cell BK263.out 0).trans rfl;have hcz18_1:w16.cell? ⟨gb263,1,none⟩=some (.int .i64 0):=(blk_cell BK263.out 1).trans rfl;have hcz18_2:w16.cell? ⟨gb263,2,none⟩=some (.int .i64 0):=(blk_cell BK263.out 2).trans rfl;have hcz18_3:w16.cell? ⟨gb263,3,none⟩=some (.string (⟨#[]⟩:ByteArray)):=(blk_cell BK263.out 3).trans rfl;have hcz18_4:w16.cell? ⟨gb263,4,none⟩=some (.string (⟨#[]⟩:ByteArray)):=(blk_cell BK263.out 4).trans rfl;have hcz18_5:w16.cell? ⟨gb263,5,none⟩=some (.int .i64 0):=(blk_cell BK263.out 5).trans rfl;have hfz18_0:=blk_frozen BK263.out 0;have hfz18_1:=blk_frozen BK263.out 1;have hfz18_2:=blk_frozen BK263.out 2;have hfz18_3:=blk_frozen BK263.out 3;have hfz18_4:=blk_frozen BK263.out 4;have hfz18_5:=blk_frozen BK263.out 5;have hcz19_0:w16.cell? ⟨gb251,0,none⟩=some (.int .i64 0):=(blk_cell BK251.out 0).trans rfl;have hcz19_1:w16.cell? ⟨gb251,1,none⟩=some (.int .i64 0):=(blk_cell BK251.out 1).trans rfl;have hcz19_2:w16.cell? ⟨gb251,2,none⟩=some (.int .i64 0):=(blk_cell BK251.out 2).trans rfl;have hcz19_3:w16.cell? ⟨gb251,3,none⟩=some (.string (⟨#[]⟩:ByteArray)):=(blk_cell BK251.out 3).trans rfl;have hcz19_4:w16.cell? ⟨gb251,4,none⟩=some (.string (⟨#[]⟩:ByteArray)):=(blk_cell BK251.out 4).trans rfl;have hcz19_5:w16.cell? ⟨gb251,5,none⟩=some (.int .i64 0):=(blk_cell BK251.out 5).trans rfl;have hcz19_6:w16.cell? ⟨gb251,6,none⟩=some (.int .i64 0):=(blk_cell BK251.out 6).trans rfl;have hfz19_0:=blk_frozen BK251.out 0;have hfz19_1:=blk_frozen BK251.out 1;have hfz19_2:=blk_frozen BK251.out 2;have hfz19_3:=blk_frozen BK251.out 3;have hfz19_4:=blk_frozen BK251.out 4;have hfz19_5:=blk_frozen BK251.out 5;have hfz19_6:=blk_frozen BK251.out 6))
   refine bodyPost_ret (results_cell_row rfl _ _ gb251 25 #[.int .i64 t256,.int .i64 t257,.int .i64 t258,.string t259,.string t260,.int .i64 t261,.int .i64 0] (0,0) _ rfl (by (with_reducible repeat (first | refine blk_drewN ?_ _ | refine blk_drew ?_ | refine blk_alloc ?_ _));refine blk_put (cs:=#[.int .i64 t256,.int .i64 t257,.int .i64 t258,.string t259,.string t260,.int .i64 t261,.int .i64 0]) ?_ 6 _ rfl;(with_reducible repeat (first | refine blk_drewN ?_ _ | refine blk_drew ?_ | refine blk_alloc ?_ _));refine blk_put (cs:=#[.int .i64 t256,.int .i64 t257,.int .i64 t258,.string t259,.string t260,.int .i64 0,.int .i64 0]) ?_ 5 _ rfl;(with_reducible repeat (first | refine blk_drewN ?_ _ | refine blk_drew ?_ | refine blk_alloc ?_ _));refine blk_put (cs:=#[.int .i64 t256,.int .i64 t257,.int .i64 t258,.string t259,.string (⟨#[]⟩:ByteArray),.int .i64 0,.int .i64 0]) ?_ 4 _ rfl;(with_reducible repeat (first | refine blk_drewN ?_ _ | refine blk_drew ?_ | refine blk_alloc ?_ _));refine blk_put (cs:=#[.int .i64 t256,.int .i64 t257,.int .i64 t258,.string (⟨#[]⟩:ByteArray),.string (⟨#[]⟩:ByteArray),.int .i64 0,.int .i64 0]) ?_ 3 _ rfl;(with_reducible repeat (first | refine blk_drewN ?_ _ | refine blk_drew ?_ | refine blk_alloc ?_ _));refine blk_put (cs:=#[.int .i64 t256,.int .i64 t257,.int .i64 0,.string (⟨#[]⟩:ByteArray),.string (⟨#[]⟩:ByteArray),.int .i64 0,.int .i64 0]) ?_ 2 _ rfl;(with_reducible repeat (first | refine blk_drewN ?_ _ | refine blk_drew ?_ | refine blk_alloc ?_ _));refine blk_put (cs:=#[.int .i64 t256,.int .i64 0,.int .i64 0,.string (⟨#[]⟩:ByteArray),.string (⟨#[]⟩:ByteArray),.int .i64 0,.int .i64 0]) ?_ 1 _ rfl;(with_reducible repeat (first | refine blk_drewN ?_ _ | refine blk_drew ?_ | refine blk_alloc ?_ _));refine blk_put (cs:=#[.int .i64 0,.int .i64 0,.int .i64 0,.string (⟨#[]⟩:ByteArray),.string (⟨#[]⟩:ByteArray),.int .i64 0,.int .i64 0]) ?_ 0 _ rfl;(with_reducible repeat (first | refine blk_drewN ?_ _ | refine blk_drew ?_ | refine blk_alloc ?_ _));refine blk_far ?_ NB251_263.out _;(with_reducible repeat (first | refine blk_drewN ?_ _ | refine blk_drew ?_ | refine blk_alloc ?_ _));refine blk_far ?_ NB251_263.out _;(with_reducible repeat (first | refine blk_drewN ?_ _ | refine blk_drew ?_ | refine blk_alloc ?_ _));refine blk_far ?_ NB251_263.out _;(with_reducible repeat (first | refine blk_drewN ?_ _ | refine blk_drew ?_ | refine blk_alloc ?_ _));refine blk_far ?_ NB251_263.out _;(with_reducible repeat (first | refine blk_drewN ?_ _ | refine blk_drew ?_ | refine blk_alloc ?_ _));refine blk_far ?_ NB251_263.out _;(with_reducible repeat (first | refine blk_drewN ?_ _ | refine blk_drew ?_ | refine blk_alloc ?_ _));refine blk_far ?_ NB251_263.out _;(with_reducible repeat (first | refine blk_drewN ?_ _ | refine blk_drew ?_ | refine blk_alloc ?_ _));exact BK251.out) Tryd.underlying25 rfl (by kernel_rfl)) rfl ?_
   exact ⟨by first | rfl | (simp [errW_none,errW_some] <;> rfl) | (simp [*,errW_none,errW_some] <;> rfl),by repeat (first | (with_reducible first | exact HB.out | apply below_alloc | apply pw_below_drewN | apply below_drew1 | refine below_set ?_ GE251.out | refine below_set ?_ GE263.out) | exact HB.out)⟩
  ·replace c10:=Bool.eq_false_iff.mpr c10
   subst c10
   have H1:(some (0,0,0,(⟨#[]⟩:ByteArray),(⟨#[]⟩:ByteArray),0,3))=some (r1,r2,r3,r4,r5,r6,r7):=by rw [if_neg (show ¬ (false=true) by decide)] at H;exact H
   clear H
   have H:=H1
   clear H1
   simp only [Option.some.injEq,Prod.mk.injEq] at H
   obtain ⟨rfl,rfl,rfl,rfl,rfl,rfl,rfl⟩:=H
   go_enter Tryd.func5,Tryd.ntmps5
   go_wp2_with (first | ((with_reducible refine gate_dst (N:=2) rfl ?_);refine box_event ?hg (N:=2) ?hd (cs:=#[.int .i64 0,.int .i64 0,.int .i64 0,.string (⟨#[]⟩:ByteArray),.string (⟨#[]⟩:ByteArray),.int .i64 0,.int .i64 0]) (t:=25) ?hr ?_;(case hd=>rfl);(case hg=>rfl);(case hr=>first | (go_simp;done) | (go_simp;rfl));intro gb251 hg w20 hbox hb;have n0_:=Aside0.mk (below_step (by repeat (first | (with_reducible first | exact HB.out | apply below_alloc | apply pw_below_drewN | apply below_drew1) | exact HB.out)) hb);have n1_:=Aside0.mk (hbox);have n2_:=Aside0.mk ((by rw [hg];exact (below_size (by repeat (first | (with_reducible first | exact HB.out | apply below_alloc | apply pw_below_drewN | apply below_drew1) | exact HB.out))):w.heap.size≤gb251));have n3_:=Aside0.mk ((by rw [hg];exact (below_size (by repeat (first | (with_reducible first | exact HB.out | apply below_alloc | apply pw_below_drewN | apply below_drew1) | exact HB.out))):w.heap.size≤gb251));clear HB;have HB:=n0_;have BK251:=n1_;have GW251:=n2_;have GE251:=n3_;clear n0_ n1_ n2_ n3_;clear hb hbox hg) | ((with_reducible refine gate_dst (N:=6) rfl ?_);refine Kd.R_lit Kd.string _ 9 ?hg (N:=6) ?hd (xs:=([a0]:List ByteArray)) (inner:=[.string a0]) (ok:=fun _=>True) (okp:=fun _=>True) ?hr ?hp (fun _ hk=>hk) trivial (Below.refl _ _) (Nat.le_refl _) (by simp) ?_;(case hd=>rfl);(case hg=>rfl);(case hr=>first | (go_simp;done) | (go_simp;rfl));(case hp=>exact (Reps.one (show Kd.M Kd.string _ _ _ a0 [.string a0] from rfl) (Reps.none _ _)));intro v253 w21 ho22 hb hg_ hnew_;clear hg_ hnew_;(first | rw [← Ny252.out] at ho22 | (simp only [Int.reduceToNat] at ho22;rw [← Ny252.out] at ho22));have n0_:=Aside0.mk (Kd.R_lower ho22 (below_size (by repeat (first | (with_reducible first | exact HB.out | apply below_alloc | apply pw_below_drewN | apply below_drew1 | refine below_set ?_ GE251.out) | exact HB.out))));have n1_:=Aside0.mk (blk_below (g:=gb251) (o:=.cells #[.int .i64 0,.int .i64 0,.int .i64 0,.string (⟨#[]⟩:ByteArray),.string (⟨#[]⟩:ByteArray),.int .i64 0,.int .i64 0] 25 (0,0)) (by (with_reducible repeat (first | refine blk_drewN ?_ _ | refine blk_drew ?_ | refine blk_alloc ?_ _));exact BK251.out) hb);have n2_:=Aside0.mk (below_step (by repeat (first | (with_reducible first | exact HB.out | apply below_alloc | apply pw_below_drewN | apply below_drew1 | refine below_set ?_ GE251.out) | exact HB.out)) hb);clear BK251;clear HB;have HO254:=n0_;have BK251:=n1_;have HB:=n2_;clear n0_ n1_ n2_;clear hb ho22;obtain ⟨Ao23,co23,eo23⟩:=Kd.R_slice HO254.out;subst eo23) | ((with_reducible refine gate_callee (f:=12) rfl ?_);refine goesL_ (some 7) rfl rfl Tryd.func12 (by kernel_rfl) rfl #[.slice Ao23 y252.length co23] rfl (by (try simp only [List.map_toArray,List.map_cons,List.map_nil]);first | done | rfl | (simp only [List.length_drop,List.length_take];rfl)) ?_;(with_reducible refine (Y28.calls k _ _ y252 false _ ?side1 ?side2 A2.out).mono ?_);(case side1=>repeat (first | exact (Kd.R_reads' HO254.out).2.2 | (with_reducible refine Kd.C_alloc ?_ _) | (with_reducible refine Kd.C_drewN ?_ _) | (with_reducible refine Kd.C_drew ?_)));(case side2=>exact (Kd.R_reads' HO254.out).2.1);rintro e w' ⟨rfl,⟨nd,rfl⟩⟩;refine ⟨_,rfl,?_⟩;(try (rw [drewN_self w21];generalize hq_:World.drewN w21 _=w21;have n0_:Aside0 (Kd.R Kd.string 9 w21 w.heap.size (fun _=>True) (.slice Ao23 y252.length co23) y252):=⟨by rw [← hq_];exact (by (with_reducible repeat (first | apply Kd.R_alloc | apply Kd.R_drewN | apply Kd.R_drew));exact HO254.out)⟩;have n1_:Aside0 (w21.heap[gb251]? = some (.cells #[.int .i64 0,.int .i64 0,.int .i64 0,.string (⟨#[]⟩:ByteArray),.string (⟨#[]⟩:ByteArray),.int .i64 0,.int .i64 0] 25 (0,0))):=⟨by rw [← hq_];exact (by (with_reducible repeat (first | refine blk_drewN ?_ _ | refine blk_drew ?_ | refine blk_alloc ?_ _));exact BK251.out)⟩;have n2_:Aside0 (Below w.heap.size w w21):=⟨by rw [← hq_];exact (by repeat (first | (with_reducible first | exact HB.out | apply below_alloc | apply pw_below_drewN | apply below_drew1 | refine below_set ?_ GE251.out) | exact HB.out))⟩;clear HO254 BK251 HB hq_;have HO254:=n0_;have BK251:=n1_;have HB:=n2_;clear n0_ n1_ n2_))) | ((with_reducible refine gate_callee (f:=13) rfl ?_);refine goesL_ (some 11) rfl rfl Tryd.func13 (by kernel_rfl) rfl #[.string a0] rfl (by (try simp only [List.map_toArray,List.map_cons,List.map_nil]);first | done | rfl | (simp only [List.length_drop,List.length_take];rfl)) ?_;(with_reducible refine (Y4.calls k a0 t256 t257 t258 t259 t260 t261 false _ A9.out (tab_below htab_ (by repeat (first | (with_reducible first | exact HB.out | apply below_alloc | apply pw_below_drewN | apply below_drew1 | refine below_set ?_ GE251.out) | exact HB.out)))).mono ?_);rintro e w24 ⟨rfl,hb⟩;refine ⟨_,rfl,?_⟩;have n0_:=Aside0.mk (Kd.R_below (by (with_reducible repeat (first | apply Kd.R_alloc | apply Kd.R_drewN | apply Kd.R_drew));exact HO254.out) hb);have n1_:=Aside0.mk (blk_below (g:=gb251) (o:=.cells #[.int .i64 0,.int .i64 0,.int .i64 0,.string (⟨#[]⟩:ByteArray),.string (⟨#[]⟩:ByteArray),.int .i64 0,.int .i64 0] 25 (0,0)) (by (with_reducible repeat (first | refine blk_drewN ?_ _ | refine blk_drew ?_ | refine blk_alloc ?_ _));exact BK251.out) hb);have n2_:=Aside0.mk (below_step (by repeat (first | (with_reducible first | exact HB.out | apply below_alloc | apply pw_below_drewN | apply below_drew1 | refine below_set ?_ GE251.out) | exact HB.out)) hb);clear HO254;clear BK251;clear HB;have HO254:=n0_;have BK251:=n1_;have HB:=n2_;clear n0_ n1_ n2_;(try clear hb);(try clear hb2);(try clear hk);(try clear hi)) | ((with_reducible refine gate_dst (N:=3) rfl ?_);refine box_event ?hg (N:=3) ?hd (cs:=#[.int .i64 0,.int .i64 0,.int .i64 0,.string (⟨#[]⟩:ByteArray),.string (⟨#[]⟩:ByteArray),.int .i64 0]) (t:=23) ?hr ?_;(case hd=>rfl);(case hg=>rfl);(case hr=>first | (go_simp;done) | (go_simp;rfl));intro gb263 hg w25 hbox hb;have n0_:=Aside0.mk (Kd.R_below (by (with_reducible repeat (first | apply Kd.R_alloc | apply Kd.R_drewN | apply Kd.R_drew));exact HO254.out) hb);have n1_:=Aside0.mk (blk_below (g:=gb251) (o:=.cells #[.int .i64 0,.int .i64 0,.int .i64 0,.string (⟨#[]⟩:ByteArray),.string (⟨#[]⟩:ByteArray),.int .i64 0,.int .i64 0] 25 (0,0)) (by (with_reducible repeat (first | refine blk_drewN ?_ _ | refine blk_drew ?_ | refine blk_alloc ?_ _));exact BK251.out) hb);have n2_:=Aside0.mk (below_step (by repeat (first | (with_reducible first | exact HB.out | apply below_alloc | apply pw_below_drewN | apply below_drew1 | refine below_set ?_ GE251.out) | exact HB.out)) hb);have n3_:=Aside0.mk (hbox);have n4_:=Aside0.mk ((by rw [hg];exact (below_size (by repeat (first | (with_reducible first | exact HB.out | apply below_alloc | apply pw_below_drewN | apply below_drew1 | refine below_set ?_ GE251.out) | exact HB.out))):w.heap.size≤gb263));have n5_:=Aside0.mk ((by rw [hg];exact (below_size (by repeat (first | (with_reducible first | exact HB.out | apply below_alloc | apply pw_below_drewN | apply below_drew1 | refine below_set ?_ GE251.out) | exact HB.out))):w.heap.size≤gb263));have n6_:=Aside0.mk ((by rw [hg];exact Nat.ne_of_lt (blk_lt (g:=gb251) (o:=.cells #[.int .i64 0,.int .i64 0,.int .i64 0,.string (⟨#[]⟩:ByteArray),.string (⟨#[]⟩:ByteArray),.int .i64 0,.int .i64 0] 25 (0,0)) (by (with_reducible repeat (first | refine blk_drewN ?_ _ | refine blk_drew ?_ | refine blk_alloc ?_ _));exact BK251.out)):gb251≠gb263));have n7_:=Aside0.mk ((by rw [hg];exact Nat.ne_of_gt (blk_lt (g:=gb251) (o:=.cells #[.int .i64 0,.int .i64 0,.int .i64 0,.string (⟨#[]⟩:ByteArray),.string (⟨#[]⟩:ByteArray),.int .i64 0,.int .i64 0] 25 (0,0)) (by (with_reducible repeat (first | refine blk_drewN ?_ _ | refine blk_drew ?_ | refine blk_alloc ?_ _));exact BK251.out)):gb263≠gb251));clear HO254;clear BK251;clear HB;have HO254:=n0_;have BK251:=n1_;have HB:=n2_;have BK263:=n3_;have GW263:=n4_;have GE263:=n5_;have NB251_263:=n6_;have NB263_251:=n7_;clear n0_ n1_ n2_ n3_ n4_ n5_ n6_ n7_;clear hb hbox hg;have hnb26:=NB263_251.out;have hnc26:=NB251_263.out;have hcz27_0:w25.cell? ⟨gb263,0,none⟩=some (.int .i64 0):=(blk_cell BK263.out 0).trans rfl;have hcz27_1:w25.cell? ⟨gb263,1,none⟩=some (.int .i64 0):=(blk_cell BK263.out 1).trans rfl;have hcz27_2:w25.cell? ⟨gb263,2,none⟩=some (.int .i64 0):=(blk_cell BK263.out 2).trans rfl;have hcz27_3:w25.cell? ⟨gb263,3,none⟩=some (.string (⟨#[]⟩:ByteArray)):=(blk_cell BK263.out 3).trans rfl;have hcz27_4:w25.cell? ⟨gb263,4,none⟩=some (.string (⟨#[]⟩:ByteArray)):=(blk_cell BK263.out 4).trans rfl;have hcz27_5:w25.cell? ⟨gb263,5,none⟩=some (.int .i64 0):=(blk_cell BK263.out 5).trans rfl;have hfz27_0:=blk_frozen BK263.out 0;have hfz27_1:=blk_frozen BK263.out 1;have hfz27_2:=blk_frozen BK263.out 2;have hfz27_3:=blk_frozen BK263.out 3;have hfz27_4:=blk_frozen BK263.out 4;have hfz27_5:=blk_frozen BK263.out 5;have hcz28_0:w25.cell? ⟨gb251,0,none⟩=some (.int .i64 0):=(blk_cell BK251.out 0).trans rfl;have hcz28_1:w25.cell? ⟨gb251,1,none⟩=some (.int .i64 0):=(blk_cell BK251.out 1).trans rfl;have hcz28_2:w25.cell? ⟨gb251,2,none⟩=some (.int .i64 0):=(blk_cell BK251.out 2).trans rfl;have hcz28_3:w25.cell? ⟨gb251,3,none⟩=some (.string (⟨#[]⟩:ByteArray)):=(blk_cell BK251.out 3).trans rfl;have hcz28_4:w25.cell? ⟨gb251,4,none⟩=some (.string (⟨#[]⟩:ByteArray)):=(blk_cell BK251.out 4).trans rfl;have hcz28_5:w25.cell? ⟨gb251,5,none⟩=some (.int .i64 0):=(blk_cell BK251.out 5).trans rfl;have hcz28_6:w25.cell? ⟨gb251,6,none⟩=some (.int .i64 0):=(blk_cell BK251.out 6).trans rfl;have hfz28_0:=blk_frozen BK251.out 0;have hfz28_1:=blk_frozen BK251.out 1;have hfz28_2:=blk_frozen BK251.out 2;have hfz28_3:=blk_frozen BK251.out 3;have hfz28_4:=blk_frozen BK251.out 4;have hfz28_5:=blk_frozen BK251.out 5;have hfz28_6:=blk_frozen BK251.out 6))
   refine bodyPost_ret (results_cell_row rfl _ _ gb251 25 #[.int .i64 0,.int .i64 0,.int .i64 0,.string (⟨#[]⟩:ByteArray),.string (⟨#[]⟩:ByteArray),.int .i64 0,.int .i64 3] (0,0) _ rfl (by (with_reducible repeat (first | refine blk_drewN ?_ _ | refine blk_drew ?_ | refine blk_alloc ?_ _));refine blk_put (cs:=#[.int .i64 0,.int .i64 0,.int .i64 0,.string (⟨#[]⟩:ByteArray),.string (⟨#[]⟩:ByteArray),.int .i64 0,.int .i64 0]) ?_ 6 _ rfl;(with_reducible repeat (first | refine blk_drewN ?_ _ | refine blk_drew ?_ | refine blk_alloc ?_ _));refine blk_put (cs:=#[.int .i64 0,.int .i64 0,.int .i64 0,.string (⟨#[]⟩:ByteArray),.string (⟨#[]⟩:ByteArray),.int .i64 0,.int .i64 0]) ?_ 5 _ rfl;(with_reducible repeat (first | refine blk_drewN ?_ _ | refine blk_drew ?_ | refine blk_alloc ?_ _));refine blk_put (cs:=#[.int .i64 0,.int .i64 0,.int .i64 0,.string (⟨#[]⟩:ByteArray),.string (⟨#[]⟩:ByteArray),.int .i64 0,.int .i64 0]) ?_ 4 _ rfl;(with_reducible repeat (first | refine blk_drewN ?_ _ | refine blk_drew ?_ | refine blk_alloc ?_ _));refine blk_put (cs:=#[.int .i64 0,.int .i64 0,.int .i64 0,.string (⟨#[]⟩:ByteArray),.string (⟨#[]⟩:ByteArray),.int .i64 0,.int .i64 0]) ?_ 3 _ rfl;(with_reducible repeat (first | refine blk_drewN ?_ _ | refine blk_drew ?_ | refine blk_alloc ?_ _));refine blk_put (cs:=#[.int .i64 0,.int .i64 0,.int .i64 0,.string (⟨#[]⟩:ByteArray),.string (⟨#[]⟩:ByteArray),.int .i64 0,.int .i64 0]) ?_ 2 _ rfl;(with_reducible repeat (first | refine blk_drewN ?_ _ | refine blk_drew ?_ | refine blk_alloc ?_ _));refine blk_put (cs:=#[.int .i64 0,.int .i64 0,.int .i64 0,.string (⟨#[]⟩:ByteArray),.string (⟨#[]⟩:ByteArray),.int .i64 0,.int .i64 0]) ?_ 1 _ rfl;(with_reducible repeat (first | refine blk_drewN ?_ _ | refine blk_drew ?_ | refine blk_alloc ?_ _));refine blk_put (cs:=#[.int .i64 0,.int .i64 0,.int .i64 0,.string (⟨#[]⟩:ByteArray),.string (⟨#[]⟩:ByteArray),.int .i64 0,.int .i64 0]) ?_ 0 _ rfl;(with_reducible repeat (first | refine blk_drewN ?_ _ | refine blk_drew ?_ | refine blk_alloc ?_ _));refine blk_far ?_ NB251_263.out _;(with_reducible repeat (first | refine blk_drewN ?_ _ | refine blk_drew ?_ | refine blk_alloc ?_ _));refine blk_far ?_ NB251_263.out _;(with_reducible repeat (first | refine blk_drewN ?_ _ | refine blk_drew ?_ | refine blk_alloc ?_ _));refine blk_far ?_ NB251_263.out _;(with_reducible repeat (first | refine blk_drewN ?_ _ | refine blk_drew ?_ | refine blk_alloc ?_ _));refine blk_far ?_ NB251_263.out _;(with_reducible repeat (first | refine blk_drewN ?_ _ | refine blk_drew ?_ | refine blk_alloc ?_ _));refine blk_far ?_ NB251_263.out _;(with_reducible repeat (first | refine blk_drewN ?_ _ | refine blk_drew ?_ | refine blk_alloc ?_ _));refine blk_far ?_ NB251_263.out _;(with_reducible repeat (first | refine blk_drewN ?_ _ | refine blk_drew ?_ | refine blk_alloc ?_ _));exact BK251.out) Tryd.underlying25 rfl (by kernel_rfl)) rfl ?_
   exact ⟨by first | rfl | (simp [errW_none,errW_some] <;> rfl) | (simp [*,errW_none,errW_some] <;> rfl),by repeat (first | (with_reducible first | exact HB.out | apply below_alloc | apply pw_below_drewN | apply below_drew1 | refine below_set ?_ GE251.out | refine below_set ?_ GE263.out) | exact HB.out)⟩


/-! ### Y42: function 14 -/
def Y42.f (a0_0:Int) (a0_1:Int) (a0_2:Int) (a0_3:ByteArray) (a0_4:ByteArray) (a0_5:Int) (a1_0:Int) (a1_1:Int) (a1_2:Int) (a1_3:ByteArray) (a1_4:ByteArray) (a1_5:Int):Option (Bool):=if a0_0=a1_0 then (if a0_1=a1_1 then (if a0_2=a1_2 then (if a0_3.toList=a1_3.toList then (if a0_4.toList=a1_4.toList then (if a0_5=a1_5 then (some true) else (none)) else (none)) else (none)) else (none)) else (none)) else (none)
set_option maxHeartbeats 8000000 in
set_option maxRecDepth 100000 in
theorem Y42.calls (a0_0:Int) (a0_1:Int) (a0_2:Int) (a0_3:ByteArray) (a0_4:ByteArray) (a0_5:Int) (a1_0:Int) (a1_1:Int) (a1_2:Int) (a1_3:ByteArray) (a1_4:ByteArray) (a1_5:Int) (r:Bool) (w:World) (h:Y42.f a0_0 a0_1 a0_2 a0_3 a0_4 a0_5 a1_0 a1_1 a1_2 a1_3 a1_4 a1_5=some r) :
  Calls Tryd.prog 14 #[.agg #[.int .i64 a0_0,.int .i64 a0_1,.int .i64 a0_2,.string a0_3,.string a0_4,.int .i64 a0_5],.agg #[.int .i64 a1_0,.int .i64 a1_1,.int .i64 a1_2,.string a1_3,.string a1_4,.int .i64 a1_5]] w fun e w'=>e = .returned (.bool r)∧Below w.heap.size w w':=by
 have hu23:=Tryd.underlying23
 have HB:=Aside0.mk (Below.refl w.heap.size w)
 have H:(if a0_0=a1_0 then (if a0_1=a1_1 then (if a0_2=a1_2 then (if a0_3.toList=a1_3.toList then (if a0_4.toList=a1_4.toList then (if a0_5=a1_5 then (some true) else (none)) else (none)) else (none)) else (none)) else (none)) else (none))=some r:=h
 clear h
 by_cases c3:a0_0=a1_0
 ·rw [if_pos c3] at H
  have c3b0:(a0_0 == a1_0)=true:=beq_iff_eq.mpr c3
  have c3b1:(a0_0 != a1_0)=false:=bne_eq_false_iff_eq.mpr c3
  clear c3
  by_cases c4:a0_1=a1_1
  ·rw [if_pos c4] at H
   have c4b0:(a0_1 == a1_1)=true:=beq_iff_eq.mpr c4
   have c4b1:(a0_1 != a1_1)=false:=bne_eq_false_iff_eq.mpr c4
   clear c4
   by_cases c5:a0_2=a1_2
   ·rw [if_pos c5] at H
    have c5b0:(a0_2 == a1_2)=true:=beq_iff_eq.mpr c5
    have c5b1:(a0_2 != a1_2)=false:=bne_eq_false_iff_eq.mpr c5
    clear c5
    by_cases c6:a0_3.toList=a1_3.toList
    ·rw [if_pos c6] at H
     have c6b0:(a0_3.toList == a1_3.toList)=true:=beq_iff_eq.mpr c6
     have c6b1:(a0_3.toList != a1_3.toList)=false:=bne_eq_false_iff_eq.mpr c6
     clear c6
     by_cases c7:a0_4.toList=a1_4.toList
     ·rw [if_pos c7] at H
      have c7b0:(a0_4.toList == a1_4.toList)=true:=beq_iff_eq.mpr c7
      have c7b1:(a0_4.toList != a1_4.toList)=false:=bne_eq_false_iff_eq.mpr c7
      clear c7
      by_cases c8:a0_5=a1_5
      ·rw [if_pos c8] at H
       have c8b0:(a0_5 == a1_5)=true:=beq_iff_eq.mpr c8
       have c8b1:(a0_5 != a1_5)=false:=bne_eq_false_iff_eq.mpr c8
       clear c8
       obtain rfl:=Option.some.inj H
       go_enter Tryd.func14,Tryd.ntmps14
       go_wp2_with (first | ((with_reducible refine gate_dst (N:=2) rfl ?_);refine box_event ?hg (N:=2) ?hd (cs:=#[.int .i64 a0_0,.int .i64 a0_1,.int .i64 a0_2,.string a0_3,.string a0_4,.int .i64 a0_5]) (t:=23) ?hr ?_;(case hd=>rfl);(case hg=>rfl);(case hr=>first | (go_simp;done) | (go_simp;rfl));intro gb264 hg w9 hbox hb;have n0_:=Aside0.mk (below_step (by repeat (first | (with_reducible first | exact HB.out | apply below_alloc | apply pw_below_drewN | apply below_drew1) | exact HB.out)) hb);have n1_:=Aside0.mk (hbox);have n2_:=Aside0.mk ((by rw [hg];exact (below_size (by repeat (first | (with_reducible first | exact HB.out | apply below_alloc | apply pw_below_drewN | apply below_drew1) | exact HB.out))):w.heap.size≤gb264));have n3_:=Aside0.mk ((by rw [hg];exact (below_size (by repeat (first | (with_reducible first | exact HB.out | apply below_alloc | apply pw_below_drewN | apply below_drew1) | exact HB.out))):w.heap.size≤gb264));clear HB;have HB:=n0_;have BK264:=n1_;have GW264:=n2_;have GE264:=n3_;clear n0_ n1_ n2_ n3_;clear hb hbox hg) | ((with_reducible refine gate_dst (N:=3) rfl ?_);refine box_event ?hg (N:=3) ?hd (cs:=#[.int .i64 a1_0,.int .i64 a1_1,.int .i64 a1_2,.string a1_3,.string a1_4,.int .i64 a1_5]) (t:=23) ?hr ?_;(case hd=>rfl);(case hg=>rfl);(case hr=>first | (go_simp;done) | (go_simp;rfl));intro gb265 hg w10 hbox hb;have n0_:=Aside0.mk (blk_below (g:=gb264) (o:=.cells #[.int .i64 a0_0,.int .i64 a0_1,.int .i64 a0_2,.string a0_3,.string a0_4,.int .i64 a0_5] 23 (0,0)) (by (with_reducible repeat (first | refine blk_drewN ?_ _ | refine blk_drew ?_ | refine blk_alloc ?_ _));exact BK264.out) hb);have n1_:=Aside0.mk (below_step (by repeat (first | (with_reducible first | exact HB.out | apply below_alloc | apply pw_below_drewN | apply below_drew1 | refine below_set ?_ GE264.out) | exact HB.out)) hb);have n2_:=Aside0.mk (hbox);have n3_:=Aside0.mk ((by rw [hg];exact (below_size (by repeat (first | (with_reducible first | exact HB.out | apply below_alloc | apply pw_below_drewN | apply below_drew1 | refine below_set ?_ GE264.out) | exact HB.out))):w.heap.size≤gb265));have n4_:=Aside0.mk ((by rw [hg];exact (below_size (by repeat (first | (with_reducible first | exact HB.out | apply below_alloc | apply pw_below_drewN | apply below_drew1 | refine below_set ?_ GE264.out) | exact HB.out))):w.heap.size≤gb265));have n5_:=Aside0.mk ((by rw [hg];exact Nat.ne_of_lt (blk_lt (g:=gb264) (o:=.cells #[.int .i64 a0_0,.int .i64 a0_1,.int .i64 a0_2,.string a0_3,.string a0_4,.int .i64 a0_5] 23 (0,0)) (by (with_reducible repeat (first | refine blk_drewN ?_ _ | refine blk_drew ?_ | refine blk_alloc ?_ _));exact BK264.out)):gb264≠gb265));have n6_:=Aside0.mk ((by rw [hg];exact Nat.ne_of_gt (blk_lt (g:=gb264) (o:=.cells #[.int .i64 a0_0,.int .i64 a0_1,.int .i64 a0_2,.string a0_3,.string a0_4,.int .i64 a0_5] 23 (0,0)) (by (with_reducible repeat (first | refine blk_drewN ?_ _ | refine blk_drew ?_ | refine blk_alloc ?_ _));exact BK264.out)):gb265≠gb264));clear BK264;clear HB;have BK264:=n0_;have HB:=n1_;have BK265:=n2_;have GW265:=n3_;have GE265:=n4_;have NB264_265:=n5_;have NB265_264:=n6_;clear n0_ n1_ n2_ n3_ n4_ n5_ n6_;clear hb hbox hg;have hnb11:=NB264_265.out;have hnc11:=NB265_264.out;have hcz12_0:w10.cell? ⟨gb264,0,none⟩=some (.int .i64 a0_0):=(blk_cell BK264.out 0).trans rfl;have hcz12_1:w10.cell? ⟨gb264,1,none⟩=some (.int .i64 a0_1):=(blk_cell BK264.out 1).trans rfl;have hcz12_2:w10.cell? ⟨gb264,2,none⟩=some (.int .i64 a0_2):=(blk_cell BK264.out 2).trans rfl;have hcz12_3:w10.cell? ⟨gb264,3,none⟩=some (.string a0_3):=(blk_cell BK264.out 3).trans rfl;have hcz12_4:w10.cell? ⟨gb264,4,none⟩=some (.string a0_4):=(blk_cell BK264.out 4).trans rfl;have hcz12_5:w10.cell? ⟨gb264,5,none⟩=some (.int .i64 a0_5):=(blk_cell BK264.out 5).trans rfl;have hfz12_0:=blk_frozen BK264.out 0;have hfz12_1:=blk_frozen BK264.out 1;have hfz12_2:=blk_frozen BK264.out 2;have hfz12_3:=blk_frozen BK264.out 3;have hfz12_4:=blk_frozen BK264.out 4;have hfz12_5:=blk_frozen BK264.out 5;have hcz13_0:w10.cell? ⟨gb265,0,none⟩=some (.int .i64 a1_0):=(blk_cell BK265.out 0).trans rfl;have hcz13_1:w10.cell? ⟨gb265,1,none⟩=some (.int .i64 a1_1):=(blk_cell BK265.out 1).trans rfl;have hcz13_2:w10.cell? ⟨gb265,2,none⟩=some (.int .i64 a1_2):=(blk_cell BK265.out 2).trans rfl;have hcz13_3:w10.cell? ⟨gb265,3,none⟩=some (.string a1_3):=(blk_cell BK265.out 3).trans rfl;have hcz13_4:w10.cell? ⟨gb265,4,none⟩=some (.string a1_4):=(blk_cell BK265.out 4).trans rfl;have hcz13_5:w10.cell? ⟨gb265,5,none⟩=some (.int .i64 a1_5):=(blk_cell BK265.out 5).trans rfl;have hfz13_0:=blk_frozen BK265.out 0;have hfz13_1:=blk_frozen BK265.out 1;have hfz13_2:=blk_frozen BK265.out 2;have hfz13_3:=blk_frozen BK265.out 3;have hfz13_4:=blk_frozen BK265.out 4;have hfz13_5:=blk_frozen BK265.out 5))
       go_ret
       exact ⟨by first | rfl | (simp [errW_none,errW_some] <;> rfl) | (simp [*,errW_none,errW_some] <;> rfl),by repeat (first | (with_reducible first | exact HB.out | apply below_alloc | apply pw_below_drewN | apply below_drew1 | refine below_set ?_ GE264.out | refine below_set ?_ GE265.out) | exact HB.out)⟩
      ·rw [if_neg c8] at H
       exact absurd H (by simp)
     ·rw [if_neg c7] at H
      exact absurd H (by simp)
    ·rw [if_neg c6] at H
     exact absurd H (by simp)
   ·rw [if_neg c5] at H
    exact absurd H (by simp)
  ·rw [if_neg c4] at H
   exact absurd H (by simp)
 ·rw [if_neg c3] at H
  exact absurd H (by simp)


/-! ### Y39: function 6 -/
def Y39.f (a0_0:Int) (a0_1:Int) (a0_2:Int) (a0_3:ByteArray) (a0_4:ByteArray) (a0_5:Int) (a0_6:Int) (a1_0:Int) (a1_1:Int) (a1_2:Int) (a1_3:ByteArray) (a1_4:ByteArray) (a1_5:Int) (a1_6:Int):Option (Bool):=(Y42.f a0_0 a0_1 a0_2 a0_3 a0_4 a0_5 a1_0 a1_1 a1_2 a1_3 a1_4 a1_5).bind fun t268=>(if t268=true then (if a0_6=a1_6 then (some true) else (none)) else (none))
set_option maxHeartbeats 8000000 in
set_option maxRecDepth 100000 in
theorem Y39.calls (a0_0:Int) (a0_1:Int) (a0_2:Int) (a0_3:ByteArray) (a0_4:ByteArray) (a0_5:Int) (a0_6:Int) (a1_0:Int) (a1_1:Int) (a1_2:Int) (a1_3:ByteArray) (a1_4:ByteArray) (a1_5:Int) (a1_6:Int) (r:Bool) (w:World) (h:Y39.f a0_0 a0_1 a0_2 a0_3 a0_4 a0_5 a0_6 a1_0 a1_1 a1_2 a1_3 a1_4 a1_5 a1_6=some r) :
  Calls Tryd.prog 6 #[.agg #[.int .i64 a0_0,.int .i64 a0_1,.int .i64 a0_2,.string a0_3,.string a0_4,.int .i64 a0_5,.int .i64 a0_6],.agg #[.int .i64 a1_0,.int .i64 a1_1,.int .i64 a1_2,.string a1_3,.string a1_4,.int .i64 a1_5,.int .i64 a1_6]] w fun e w'=>e = .returned (.bool r)∧Below w.heap.size w w':=by
 have hu25:=Tryd.underlying25
 have hu23:=Tryd.underlying23
 have HB:=Aside0.mk (Below.refl w.heap.size w)
 have H:((Y42.f a0_0 a0_1 a0_2 a0_3 a0_4 a0_5 a1_0 a1_1 a1_2 a1_3 a1_4 a1_5).bind fun t268=>(if t268=true then (if a0_6=a1_6 then (some true) else (none)) else (none)))=some r:=h
 clear h
 replace H:=Option.bind_eq_some_iff.mp H
 obtain ⟨t268,A30,H⟩:=H
 replace H:(if t268=true then (if a0_6=a1_6 then (some true) else (none)) else (none))=some r:=H
 have A3:=Aside0.mk A30
 clear A30
 by_cases c4:t268=true
 ·subst c4
  have H1:(if a0_6=a1_6 then (some true) else (none))=some r:=by rw [if_pos rfl] at H;exact H
  clear H
  have H:=H1
  clear H1
  by_cases c5:a0_6=a1_6
  ·rw [if_pos c5] at H
   have c5b0:(a0_6 == a1_6)=true:=beq_iff_eq.mpr c5
   have c5b1:(a0_6 != a1_6)=false:=bne_eq_false_iff_eq.mpr c5
   clear c5
   obtain rfl:=Option.some.inj H
   go_enter Tryd.func6,Tryd.ntmps6
   go_wp2_with (first | ((with_reducible refine gate_dst (N:=2) rfl ?_);refine box_event ?hg (N:=2) ?hd (cs:=#[.int .i64 a0_0,.int .i64 a0_1,.int .i64 a0_2,.string a0_3,.string a0_4,.int .i64 a0_5,.int .i64 a0_6]) (t:=25) ?hr ?_;(case hd=>rfl);(case hg=>rfl);(case hr=>first | (go_simp;done) | (go_simp;rfl));intro gb266 hg w6 hbox hb;have n0_:=Aside0.mk (below_step (by repeat (first | (with_reducible first | exact HB.out | apply below_alloc | apply pw_below_drewN | apply below_drew1) | exact HB.out)) hb);have n1_:=Aside0.mk (hbox);have n2_:=Aside0.mk ((by rw [hg];exact (below_size (by repeat (first | (with_reducible first | exact HB.out | apply below_alloc | apply pw_below_drewN | apply below_drew1) | exact HB.out))):w.heap.size≤gb266));have n3_:=Aside0.mk ((by rw [hg];exact (below_size (by repeat (first | (with_reducible first | exact HB.out | apply below_alloc | apply pw_below_drewN | apply below_drew1) | exact HB.out))):w.heap.size≤gb266));clear HB;have HB:=n0_;have BK266:=n1_;have GW266:=n2_;have GE266:=n3_;clear n0_ n1_ n2_ n3_;clear hb hbox hg) | ((with_reducible refine gate_dst (N:=3) rfl ?_);refine box_event ?hg (N:=3) ?hd (cs:=#[.int .i64 a1_0,.int .i64 a1_1,.int .i64 a1_2,.string a1_3,.string a1_4,.int .i64 a1_5,.int .i64 a1_6]) (t:=25) ?hr ?_;(case hd=>rfl);(case hg=>rfl);(case hr=>first | (go_simp;done) | (go_simp;rfl));intro gb267 hg w7 hbox hb;have n0_:=Aside0.mk (blk_below (g:=gb266) (o:=.cells #[.int .i64 a0_0,.int .i64 a0_1,.int .i64 a0_2,.string a0_3,.string a0_4,.int .i64 a0_5,.int .i64 a0_6] 25 (0,0)) (by (with_reducible repeat (first | refine blk_drewN ?_ _ | refine blk_drew ?_ | refine blk_alloc ?_ _));exact BK266.out) hb);have n1_:=Aside0.mk (below_step (by repeat (first | (with_reducible first | exact HB.out | apply below_alloc | apply pw_below_drewN | apply below_drew1 | refine below_set ?_ GE266.out) | exact HB.out)) hb);have n2_:=Aside0.mk (hbox);have n3_:=Aside0.mk ((by rw [hg];exact (below_size (by repeat (first | (with_reducible first | exact HB.out | apply below_alloc | apply pw_below_drewN | apply below_drew1 | refine below_set ?_ GE266.out) | exact HB.out))):w.heap.size≤gb267));have n4_:=Aside0.mk ((by rw [hg];exact (below_size (by repeat (first | (with_reducible first | exact HB.out | apply below_alloc | apply pw_below_drewN | apply below_drew1 | refine below_set ?_ GE266.out) | exact HB.out))):w.heap.size≤gb267));have n5_:=Aside0.mk ((by rw [hg];exact Nat.ne_of_lt (blk_lt (g:=gb266) (o:=.cells #[.int .i64 a0_0,.int .i64 a0_1,.int .i64 a0_2,.string a0_3,.string a0_4,.int .i64 a0_5,.int .i64 a0_6] 25 (0,0)) (by (with_reducible repeat (first | refine blk_drewN ?_ _ | refine blk_drew ?_ | refine blk_alloc ?_ _));exact BK266.out)):gb266≠gb267));have n6_:=Aside0.mk ((by rw [hg];exact Nat.ne_of_gt (blk_lt (g:=gb266) (o:=.cells #[.int .i64 a0_0,.int .i64 a0_1,.int .i64 a0_2,.string a0_3,.string a0_4,.int .i64 a0_5,.int .i64 a0_6] 25 (0,0)) (by (with_reducible repeat (first | refine blk_drewN ?_ _ | refine blk_drew ?_ | refine blk_alloc ?_ _));exact BK266.out)):gb267≠gb266));clear BK266;clear HB;have BK266:=n0_;have HB:=n1_;have BK267:=n2_;have GW267:=n3_;have GE267:=n4_;have NB266_267:=n5_;have NB267_266:=n6_;clear n0_ n1_ n2_ n3_ n4_ n5_ n6_;clear hb hbox hg;have hnb8:=NB266_267.out;have hnc8:=NB267_266.out;have hcz9_0:w7.cell? ⟨gb266,0,none⟩=some (.int .i64 a0_0):=(blk_cell BK266.out 0).trans rfl;have hcz9_1:w7.cell? ⟨gb266,1,none⟩=some (.int .i64 a0_1):=(blk_cell BK266.out 1).trans rfl;have hcz9_2:w7.cell? ⟨gb266,2,none⟩=some (.int .i64 a0_2):=(blk_cell BK266.out 2).trans rfl;have hcz9_3:w7.cell? ⟨gb266,3,none⟩=some (.string a0_3):=(blk_cell BK266.out 3).trans rfl;have hcz9_4:w7.cell? ⟨gb266,4,none⟩=some (.string a0_4):=(blk_cell BK266.out 4).trans rfl;have hcz9_5:w7.cell? ⟨gb266,5,none⟩=some (.int .i64 a0_5):=(blk_cell BK266.out 5).trans rfl;have hcz9_6:w7.cell? ⟨gb266,6,none⟩=some (.int .i64 a0_6):=(blk_cell BK266.out 6).trans rfl;have hfz9_0:=blk_frozen BK266.out 0;have hfz9_1:=blk_frozen BK266.out 1;have hfz9_2:=blk_frozen BK266.out 2;have hfz9_3:=blk_frozen BK266.out 3;have hfz9_4:=blk_frozen BK266.out 4;have hfz9_5:=blk_frozen BK266.out 5;have hfz9_6:=blk_frozen BK266.out 6;have hcz10_0:w7.cell? ⟨gb267,0,none⟩=some (.int .i64 a1_0):=(blk_cell BK267.out 0).trans rfl;have hcz10_1:w7.cell? ⟨gb267,1,none⟩=some (.int .i64 a1_1):=(blk_cell BK267.out 1).trans rfl;have hcz10_2:w7.cell? ⟨gb267,2,none⟩=some (.int .i64 a1_2):=(blk_cell BK267.out 2).trans rfl;have hcz10_3:w7.cell? ⟨gb267,3,none⟩=some (.string a1_3):=(blk_cell BK267.out 3).trans rfl;have hcz10_4:w7.cell? ⟨gb267,4,none⟩=some (.string a1_4):=(blk_cell BK267.out 4).trans rfl;have hcz10_5:w7.cell? ⟨gb267,5,none⟩=some (.int .i64 a1_5):=(blk_cell BK267.out 5).trans rfl;have hcz10_6:w7.cell? ⟨gb267,6,none⟩=some (.int .i64 a1_6):=(blk_cell BK267.out 6).trans rfl;have hfz10_0:=blk_frozen BK267.out 0;have hfz10_1:=blk_frozen BK267.out 1;have hfz10_2:=blk_frozen BK267.out 2;have hfz10_3:=blk_frozen BK267.out 3;have hfz10_4:=blk_frozen BK267.out 4;have hfz10_5:=blk_frozen BK267.out 5;have hfz10_6:=blk_frozen BK267.out 6) | ((with_reducible refine gate_callee (f:=14) rfl ?_);refine goesL_ (some 9) rfl rfl Tryd.func14 (by kernel_rfl) rfl #[.agg #[.int .i64 a0_0,.int .i64 a0_1,.int .i64 a0_2,.string a0_3,.string a0_4,.int .i64 a0_5],.agg #[.int .i64 a1_0,.int .i64 a1_1,.int .i64 a1_2,.string a1_3,.string a1_4,.int .i64 a1_5]] rfl (by (try simp only [List.map_toArray,List.map_cons,List.map_nil]);first | done | rfl | (simp only [List.length_drop,List.length_take];rfl)) ?_;(with_reducible refine (Y42.calls a0_0 a0_1 a0_2 a0_3 a0_4 a0_5 a1_0 a1_1 a1_2 a1_3 a1_4 a1_5 true _ A3.out).mono ?_);rintro e w11 ⟨rfl,hb⟩;refine ⟨_,rfl,?_⟩;have n0_:=Aside0.mk (blk_below (g:=gb266) (o:=.cells #[.int .i64 a0_0,.int .i64 a0_1,.int .i64 a0_2,.string a0_3,.string a0_4,.int .i64 a0_5,.int .i64 a0_6] 25 (0,0)) (by (with_reducible repeat (first | refine blk_drewN ?_ _ | refine blk_drew ?_ | refine blk_alloc ?_ _));exact BK266.out) hb);have n1_:=Aside0.mk (blk_below (g:=gb267) (o:=.cells #[.int .i64 a1_0,.int .i64 a1_1,.int .i64 a1_2,.string a1_3,.string a1_4,.int .i64 a1_5,.int .i64 a1_6] 25 (0,0)) (by (with_reducible repeat (first | refine blk_drewN ?_ _ | refine blk_drew ?_ | refine blk_alloc ?_ _));exact BK267.out) hb);have n2_:=Aside0.mk (below_step (by repeat (first | (with_reducible first | exact HB.out | apply below_alloc | apply pw_below_drewN | apply below_drew1 | refine below_set ?_ GE266.out | refine below_set ?_ GE267.out) | exact HB.out)) hb);clear BK266;clear BK267;clear HB;have BK266:=n0_;have BK267:=n1_;have HB:=n2_;clear n0_ n1_ n2_;(try clear hb);(try clear hb2);(try clear hk);(try clear hi);have hcz12_0:w11.cell? ⟨gb266,0,none⟩=some (.int .i64 a0_0):=(blk_cell BK266.out 0).trans rfl;have hcz12_1:w11.cell? ⟨gb266,1,none⟩=some (.int .i64 a0_1):=(blk_cell BK266.out 1).trans rfl;have hcz12_2:w11.cell? ⟨gb266,2,none⟩=some (.int .i64 a0_2):=(blk_cell BK266.out 2).trans rfl;have hcz12_3:w11.cell? ⟨gb266,3,none⟩=some (.string a0_3):=(blk_cell BK266.out 3).trans rfl;have hcz12_4:w11.cell? ⟨gb266,4,none⟩=some (.string a0_4):=(blk_cell BK266.out 4).trans rfl;have hcz12_5:w11.cell? ⟨gb266,5,none⟩=some (.int .i64 a0_5):=(blk_cell BK266.out 5).trans rfl;have hcz12_6:w11.cell? ⟨gb266,6,none⟩=some (.int .i64 a0_6):=(blk_cell BK266.out 6).trans rfl;have hfz12_0:=blk_frozen BK266.out 0;have hfz12_1:=blk_frozen BK266.out 1;have hfz12_2:=blk_frozen BK266.out 2;have hfz12_3:=blk_frozen BK266.out 3;have hfz12_4:=blk_frozen BK266.out 4;have hfz12_5:=blk_frozen BK266.out 5;have hfz12_6:=blk_frozen BK266.out 6;have hcz13_0:w11.cell? ⟨gb267,0,none⟩=some (.int .i64 a1_0):=(blk_cell BK267.out 0).trans rfl;have hcz13_1:w11.cell? ⟨gb267,1,none⟩=some (.int .i64 a1_1):=(blk_cell BK267.out 1).trans rfl;have hcz13_2:w11.cell? ⟨gb267,2,none⟩=some (.int .i64 a1_2):=(blk_cell BK267.out 2).trans rfl;have hcz13_3:w11.cell? ⟨gb267,3,none⟩=some (.string a1_3):=(blk_cell BK267.out 3).trans rfl;have hcz13_4:w11.cell? ⟨gb267,4,none⟩=some (.string a1_4):=(blk_cell BK267.out 4).trans rfl;have hcz13_5:w11.cell? ⟨gb267,5,none⟩=some (.int .i64 a1_5):=(blk_cell BK267.out 5).trans rfl;have hcz13_6:w11.cell? ⟨gb267,6,none⟩=some (.int .i64 a1_6):=(blk_cell BK267.out 6).trans rfl;have hfz13_0:=blk_frozen BK267.out 0;have hfz13_1:=blk_frozen BK267.out 1;have hfz13_2:=blk_frozen BK267.out 2;have hfz13_3:=blk_frozen BK267.out 3;have hfz13_4:=blk_frozen BK267.out 4;have hfz13_5:=blk_frozen BK267.out 5;have hfz13_6:=blk_frozen BK267.out 6))
   go_ret
   exact ⟨by first | rfl | (simp [errW_none,errW_some] <;> rfl) | (simp [*,errW_none,errW_some] <;> rfl),by repeat (first | (with_reducible first | exact HB.out | apply below_alloc | apply pw_below_drewN | apply below_drew1 | refine below_set ?_ GE266.out | refine below_set ?_ GE267.out) | exact HB.out)⟩
  ·rw [if_neg c5] at H
   exact absurd H (by simp)
 ·replace c4:=Bool.eq_false_iff.mpr c4
  subst c4
  have H1:(none)=some r:=by rw [if_neg (show ¬ (false=true) by decide)] at H;exact H
  clear H
  have H:=H1
  clear H1
  exact absurd H (by simp)


/-! ### Y21: function 3 -/
def Y21.f (k:Nat) (a0:ByteArray):Option (Bool):=if (a0.size:Int)>1048576 then (some true) else ((Y1.f k a0).bind fun bt269=>((Y26.f k a0).bind fun bt277=>((Y39.f bt277.1 bt277.2.1 bt277.2.2.1 bt277.2.2.2.1 bt277.2.2.2.2.1 bt277.2.2.2.2.2.1 bt277.2.2.2.2.2.2 bt269.1 bt269.2.1 bt269.2.2.1 bt269.2.2.2.1 bt269.2.2.2.2.1 bt269.2.2.2.2.2.1 bt269.2.2.2.2.2.2).bind fun t285=>(if t285=true then (some true) else (none)))))
theorem Y21.mono:∀ a0 k,LeO (Y21.f k a0) (Y21.f (k+1) a0):=by
 intro a0 k
 unfold Y21.f
 repeat' first
   | (with_reducible exact Y26.mono _ _)
   | (with_reducible exact Y1.mono _ _)
   | (with_reducible exact LeO.refl _)
   | (with_reducible exact LeO.none _)
   | (with_reducible refine LeO.ite ?_ ?_)
   | (with_reducible refine LeO.bind ?_ (fun _=>?_))
   | exact Y26.mono _ _
   | exact Y1.mono _ _
   | exact LeO.none _
   | refine LeO.ite ?_ ?_
   | refine LeO.bind ?_ (fun _=>?_)
set_option maxHeartbeats 8000000 in
set_option maxRecDepth 100000 in
theorem Y21.calls (k:Nat) (a0:ByteArray) (r:Bool) (w:World) (h:Y21.f k a0=some r) (htab_:Tab_ w) :
  Calls Tryd.prog 3 #[.string a0] w fun e w'=>e = .returned (.bool r)∧Below w.heap.size w w':=by
 have hu25:=Tryd.underlying25
 have HB:=Aside0.mk (Below.refl w.heap.size w)
 have H:(if (a0.size:Int)>1048576 then (some true) else ((Y1.f k a0).bind fun bt269=>((Y26.f k a0).bind fun bt277=>((Y39.f bt277.1 bt277.2.1 bt277.2.2.1 bt277.2.2.2.1 bt277.2.2.2.2.1 bt277.2.2.2.2.2.1 bt277.2.2.2.2.2.2 bt269.1 bt269.2.1 bt269.2.2.1 bt269.2.2.2.1 bt269.2.2.2.2.1 bt269.2.2.2.2.2.1 bt269.2.2.2.2.2.2).bind fun t285=>(if t285=true then (some true) else (none))))))=some r:=h
 clear h
 by_cases c2:(a0.size:Int)>1048576
 ·rw [if_pos c2] at H
  have c2b0:decide (1048576<(a0.size:Int))=true:=decide_eq_true c2
  have c2b1:decide (1048576<a0.size)=true:=decide_eq_true (by omega)
  clear c2
  obtain rfl:=Option.some.inj H
  go_enter Tryd.func3,Tryd.ntmps3
  go_wp2
  go_ret
  exact ⟨by first | rfl | (simp [errW_none,errW_some] <;> rfl) | (simp [*,errW_none,errW_some] <;> rfl),by repeat (first | (with_reducible first | exact HB.out | apply below_alloc | apply pw_below_drewN | apply below_drew1) | exact HB.out)⟩
 ·rw [if_neg c2] at H
  have c2b0:decide (1048576<(a0.size:Int))=false:=decide_eq_false c2
  have c2b1:decide (1048576<a0.size)=false:=decide_eq_false (by omega)
  clear c2
  replace H:=Option.bind_eq_some_iff.mp H
  obtain ⟨⟨t269,t270,t271,t272,t273,t274,t275⟩,A30,H⟩:=H
  replace H:((Y26.f k a0).bind fun bt277=>((Y39.f bt277.1 bt277.2.1 bt277.2.2.1 bt277.2.2.2.1 bt277.2.2.2.2.1 bt277.2.2.2.2.2.1 bt277.2.2.2.2.2.2 t269 t270 t271 t272 t273 t274 t275).bind fun t285=>(if t285=true then (some true) else (none))))=some r:=H
  have A3:=Aside0.mk A30
  clear A30
  replace H:=Option.bind_eq_some_iff.mp H
  obtain ⟨⟨t277,t278,t279,t280,t281,t282,t283⟩,A40,H⟩:=H
  replace H:((Y39.f t277 t278 t279 t280 t281 t282 t283 t269 t270 t271 t272 t273 t274 t275).bind fun t285=>(if t285=true then (some true) else (none)))=some r:=H
  have A4:=Aside0.mk A40
  clear A40
  replace H:=Option.bind_eq_some_iff.mp H
  obtain ⟨t285,A50,H⟩:=H
  replace H:(if t285=true then (some true) else (none))=some r:=H
  have A5:=Aside0.mk A50
  clear A50
  by_cases c6:t285=true
  ·subst c6
   have H1:(some true)=some r:=by rw [if_pos rfl] at H;exact H
   clear H
   have H:=H1
   clear H1
   obtain rfl:=Option.some.inj H
   go_enter Tryd.func3,Tryd.ntmps3
   go_wp2_with (first | ((with_reducible refine gate_callee (f:=4) rfl ?_);refine goesL_ (some 9) rfl rfl Tryd.func4 (by kernel_rfl) rfl #[.string a0] rfl (by (try simp only [List.map_toArray,List.map_cons,List.map_nil]);first | done | rfl | (simp only [List.length_drop,List.length_take];rfl)) ?_;(with_reducible refine (Y1.calls k a0 t269 t270 t271 t272 t273 t274 t275 _ A3.out).mono ?_);rintro e w7 ⟨rfl,hb⟩;refine ⟨_,rfl,?_⟩;have n0_:=Aside0.mk (below_step (by repeat (first | (with_reducible first | exact HB.out | apply below_alloc | apply pw_below_drewN | apply below_drew1) | exact HB.out)) hb);clear HB;have HB:=n0_;clear n0_;(try clear hb);(try clear hb2);(try clear hk);(try clear hi)) | ((with_reducible refine gate_dst (N:=3) rfl ?_);refine box_event ?hg (N:=3) ?hd (cs:=#[.int .i64 0,.int .i64 0,.int .i64 0,.string (⟨#[]⟩:ByteArray),.string (⟨#[]⟩:ByteArray),.int .i64 0,.int .i64 0]) (t:=25) ?hr ?_;(case hd=>rfl);(case hg=>rfl);(case hr=>first | (go_simp;done) | (go_simp;rfl));intro gb276 hg w8 hbox hb;have n0_:=Aside0.mk (below_step (by repeat (first | (with_reducible first | exact HB.out | apply below_alloc | apply pw_below_drewN | apply below_drew1) | exact HB.out)) hb);have n1_:=Aside0.mk (hbox);have n2_:=Aside0.mk ((by rw [hg];exact (below_size (by repeat (first | (with_reducible first | exact HB.out | apply below_alloc | apply pw_below_drewN | apply below_drew1) | exact HB.out))):w.heap.size≤gb276));have n3_:=Aside0.mk ((by rw [hg];exact (below_size (by repeat (first | (with_reducible first | exact HB.out | apply below_alloc | apply pw_below_drewN | apply below_drew1) | exact HB.out))):w.heap.size≤gb276));clear HB;have HB:=n0_;have BK276:=n1_;have GW276:=n2_;have GE276:=n3_;clear n0_ n1_ n2_ n3_;clear hb hbox hg;have hcz9_0:w8.cell? ⟨gb276,0,none⟩=some (.int .i64 0):=(blk_cell BK276.out 0).trans rfl;have hcz9_1:w8.cell? ⟨gb276,1,none⟩=some (.int .i64 0):=(blk_cell BK276.out 1).trans rfl;have hcz9_2:w8.cell? ⟨gb276,2,none⟩=some (.int .i64 0):=(blk_cell BK276.out 2).trans rfl;have hcz9_3:w8.cell? ⟨gb276,3,none⟩=some (.string (⟨#[]⟩:ByteArray)):=(blk_cell BK276.out 3).trans rfl;have hcz9_4:w8.cell? ⟨gb276,4,none⟩=some (.string (⟨#[]⟩:ByteArray)):=(blk_cell BK276.out 4).trans rfl;have hcz9_5:w8.cell? ⟨gb276,5,none⟩=some (.int .i64 0):=(blk_cell BK276.out 5).trans rfl;have hcz9_6:w8.cell? ⟨gb276,6,none⟩=some (.int .i64 0):=(blk_cell BK276.out 6).trans rfl;have hfz9_0:=blk_frozen BK276.out 0;have hfz9_1:=blk_frozen BK276.out 1;have hfz9_2:=blk_frozen BK276.out 2;have hfz9_3:=blk_frozen BK276.out 3;have hfz9_4:=blk_frozen BK276.out 4;have hfz9_5:=blk_frozen BK276.out 5;have hfz9_6:=blk_frozen BK276.out 6) | ((with_reducible refine gate_callee (f:=5) rfl ?_);refine goesL_ (some 11) rfl rfl Tryd.func5 (by kernel_rfl) rfl #[.string a0] rfl (by (try simp only [List.map_toArray,List.map_cons,List.map_nil]);first | done | rfl | (simp only [List.length_drop,List.length_take];rfl)) ?_;(with_reducible refine (Y26.calls k a0 t277 t278 t279 t280 t281 t282 t283 _ A4.out (tab_below htab_ (by repeat (first | (with_reducible first | exact HB.out | apply below_alloc | apply pw_below_drewN | apply below_drew1 | refine below_set ?_ GE276.out) | exact HB.out)))).mono ?_);rintro e w10 ⟨rfl,hb⟩;refine ⟨_,rfl,?_⟩;have n0_:=Aside0.mk (blk_below (g:=gb276) (o:=.cells #[.int .i64 t269,.int .i64 t270,.int .i64 t271,.string t272,.string t273,.int .i64 t274,.int .i64 t275] 25 (0,0)) (by (with_reducible repeat (first | refine blk_drewN ?_ _ | refine blk_drew ?_ | refine blk_alloc ?_ _));refine blk_put (cs:=#[.int .i64 t269,.int .i64 t270,.int .i64 t271,.string t272,.string t273,.int .i64 t274,.int .i64 0]) ?_ 6 _ rfl;(with_reducible repeat (first | refine blk_drewN ?_ _ | refine blk_drew ?_ | refine blk_alloc ?_ _));refine blk_put (cs:=#[.int .i64 t269,.int .i64 t270,.int .i64 t271,.string t272,.string t273,.int .i64 0,.int .i64 0]) ?_ 5 _ rfl;(with_reducible repeat (first | refine blk_drewN ?_ _ | refine blk_drew ?_ | refine blk_alloc ?_ _));refine blk_put (cs:=#[.int .i64 t269,.int .i64 t270,.int .i64 t271,.string t272,.string (⟨#[]⟩:ByteArray),.int .i64 0,.int .i64 0]) ?_ 4 _ rfl;(with_reducible repeat (first | refine blk_drewN ?_ _ | refine blk_drew ?_ | refine blk_alloc ?_ _));refine blk_put (cs:=#[.int .i64 t269,.int .i64 t270,.int .i64 t271,.string (⟨#[]⟩:ByteArray),.string (⟨#[]⟩:ByteArray),.int .i64 0,.int .i64 0]) ?_ 3 _ rfl;(with_reducible repeat (first | refine blk_drewN ?_ _ | refine blk_drew ?_ | refine blk_alloc ?_ _));refine blk_put (cs:=#[.int .i64 t269,.int .i64 t270,.int .i64 0,.string (⟨#[]⟩:ByteArray),.string (⟨#[]⟩:ByteArray),.int .i64 0,.int .i64 0]) ?_ 2 _ rfl;(with_reducible repeat (first | refine blk_drewN ?_ _ | refine blk_drew ?_ | refine blk_alloc ?_ _));refine blk_put (cs:=#[.int .i64 t269,.int .i64 0,.int .i64 0,.string (⟨#[]⟩:ByteArray),.string (⟨#[]⟩:ByteArray),.int .i64 0,.int .i64 0]) ?_ 1 _ rfl;(with_reducible repeat (first | refine blk_drewN ?_ _ | refine blk_drew ?_ | refine blk_alloc ?_ _));refine blk_put (cs:=#[.int .i64 0,.int .i64 0,.int .i64 0,.string (⟨#[]⟩:ByteArray),.string (⟨#[]⟩:ByteArray),.int .i64 0,.int .i64 0]) ?_ 0 _ rfl;(with_reducible repeat (first | refine blk_drewN ?_ _ | refine blk_drew ?_ | refine blk_alloc ?_ _));exact BK276.out) hb);have n1_:=Aside0.mk (below_step (by repeat (first | (with_reducible first | exact HB.out | apply below_alloc | apply pw_below_drewN | apply below_drew1 | refine below_set ?_ GE276.out) | exact HB.out)) hb);clear BK276;clear HB;have BK276:=n0_;have HB:=n1_;clear n0_ n1_;(try clear hb);(try clear hb2);(try clear hk);(try clear hi)) | ((with_reducible refine gate_dst (N:=4) rfl ?_);refine box_event ?hg (N:=4) ?hd (cs:=#[.int .i64 0,.int .i64 0,.int .i64 0,.string (⟨#[]⟩:ByteArray),.string (⟨#[]⟩:ByteArray),.int .i64 0,.int .i64 0]) (t:=25) ?hr ?_;(case hd=>rfl);(case hg=>rfl);(case hr=>first | (go_simp;done) | (go_simp;rfl));intro gb284 hg w11 hbox hb;have n0_:=Aside0.mk (blk_below (g:=gb276) (o:=.cells #[.int .i64 t269,.int .i64 t270,.int .i64 t271,.string t272,.string t273,.int .i64 t274,.int .i64 t275] 25 (0,0)) (by (with_reducible repeat (first | refine blk_drewN ?_ _ | refine blk_drew ?_ | refine blk_alloc ?_ _));exact BK276.out) hb);have n1_:=Aside0.mk (below_step (by repeat (first | (with_reducible first | exact HB.out | apply below_alloc | apply pw_below_drewN | apply below_drew1 | refine below_set ?_ GE276.out) | exact HB.out)) hb);have n2_:=Aside0.mk (hbox);have n3_:=Aside0.mk ((by rw [hg];exact (below_size (by repeat (first | (with_reducible first | exact HB.out | apply below_alloc | apply pw_below_drewN | apply below_drew1 | refine below_set ?_ GE276.out) | exact HB.out))):w.heap.size≤gb284));have n4_:=Aside0.mk ((by rw [hg];exact (below_size (by repeat (first | (with_reducible first | exact HB.out | apply below_alloc | apply pw_below_drewN | apply below_drew1 | refine below_set ?_ GE276.out) | exact HB.out))):w.heap.size≤gb284));have n5_:=Aside0.mk ((by rw [hg];exact Nat.ne_of_lt (blk_lt (g:=gb276) (o:=.cells #[.int .i64 t269,.int .i64 t270,.int .i64 t271,.string t272,.string t273,.int .i64 t274,.int .i64 t275] 25 (0,0)) (by (with_reducible repeat (first | refine blk_drewN ?_ _ | refine blk_drew ?_ | refine blk_alloc ?_ _));exact BK276.out)):gb276≠gb284));have n6_:=Aside0.mk ((by rw [hg];exact Nat.ne_of_gt (blk_lt (g:=gb276) (o:=.cells #[.int .i64 t269,.int .i64 t270,.int .i64 t271,.string t272,.string t273,.int .i64 t274,.int .i64 t275] 25 (0,0)) (by (with_reducible repeat (first | refine blk_drewN ?_ _ | refine blk_drew ?_ | refine blk_alloc ?_ _));exact BK276.out)):gb284≠gb276));clear BK276;clear HB;have BK276:=n0_;have HB:=n1_;have BK284:=n2_;have GW284:=n3_;have GE284:=n4_;have NB276_284:=n5_;have NB284_276:=n6_;clear n0_ n1_ n2_ n3_ n4_ n5_ n6_;clear hb hbox hg;have hnb12:=NB284_276.out;have hnc12:=NB276_284.out;have hcz13_0:w11.cell? ⟨gb284,0,none⟩=some (.int .i64 0):=(blk_cell BK284.out 0).trans rfl;have hcz13_1:w11.cell? ⟨gb284,1,none⟩=some (.int .i64 0):=(blk_cell BK284.out 1).trans rfl;have hcz13_2:w11.cell? ⟨gb284,2,none⟩=some (.int .i64 0):=(blk_cell BK284.out 2).trans rfl;have hcz13_3:w11.cell? ⟨gb284,3,none⟩=some (.string (⟨#[]⟩:ByteArray)):=(blk_cell BK284.out 3).trans rfl;have hcz13_4:w11.cell? ⟨gb284,4,none⟩=some (.string (⟨#[]⟩:ByteArray)):=(blk_cell BK284.out 4).trans rfl;have hcz13_5:w11.cell? ⟨gb284,5,none⟩=some (.int .i64 0):=(blk_cell BK284.out 5).trans rfl;have hcz13_6:w11.cell? ⟨gb284,6,none⟩=some (.int .i64 0):=(blk_cell BK284.out 6).trans rfl;have hfz13_0:=blk_frozen BK284.out 0;have hfz13_1:=blk_frozen BK284.out 1;have hfz13_2:=blk_frozen BK284.out 2;have hfz13_3:=blk_frozen BK284.out 3;have hfz13_4:=blk_frozen BK284.out 4;have hfz13_5:=blk_frozen BK284.out 5;have hfz13_6:=blk_frozen BK284.out 6;have hcz14_0:w11.cell? ⟨gb276,0,none⟩=some (.int .i64 t269):=(blk_cell BK276.out 0).trans rfl;have hcz14_1:w11.cell? ⟨gb276,1,none⟩=some (.int .i64 t270):=(blk_cell BK276.out 1).trans rfl;have hcz14_2:w11.cell? ⟨gb276,2,none⟩=some (.int .i64 t271):=(blk_cell BK276.out 2).trans rfl;have hcz14_3:w11.cell? ⟨gb276,3,none⟩=some (.string t272):=(blk_cell BK276.out 3).trans rfl;have hcz14_4:w11.cell? ⟨gb276,4,none⟩=some (.string t273):=(blk_cell BK276.out 4).trans rfl;have hcz14_5:w11.cell? ⟨gb276,5,none⟩=some (.int .i64 t274):=(blk_cell BK276.out 5).trans rfl;have hcz14_6:w11.cell? ⟨gb276,6,none⟩=some (.int .i64 t275):=(blk_cell BK276.out 6).trans rfl;have hfz14_0:=blk_frozen BK276.out 0;have hfz14_1:=blk_frozen BK276.out 1;have hfz14_2:=blk_frozen BK276.out 2;have hfz14_3:=blk_frozen BK276.out 3;have hfz14_4:=blk_frozen BK276.out 4;have hfz14_5:=blk_frozen BK276.out 5;have hfz14_6:=blk_frozen BK276.out 6) | ((with_reducible refine gate_callee (f:=6) rfl ?_);refine goesL_ (some 14) rfl rfl Tryd.func6 (by kernel_rfl) rfl #[.agg #[.int .i64 t277,.int .i64 t278,.int .i64 t279,.string t280,.string t281,.int .i64 t282,.int .i64 t283],.agg #[.int .i64 t269,.int .i64 t270,.int .i64 t271,.string t272,.string t273,.int .i64 t274,.int .i64 t275]] rfl (by (try simp only [List.map_toArray,List.map_cons,List.map_nil]);first | done | rfl | (simp only [List.length_drop,List.length_take];rfl)) ?_;(with_reducible refine (Y39.calls t277 t278 t279 t280 t281 t282 t283 t269 t270 t271 t272 t273 t274 t275 true _ A5.out).mono ?_);rintro e w15 ⟨rfl,hb⟩;refine ⟨_,rfl,?_⟩;have n0_:=Aside0.mk (blk_below (g:=gb276) (o:=.cells #[.int .i64 t269,.int .i64 t270,.int .i64 t271,.string t272,.string t273,.int .i64 t274,.int .i64 t275] 25 (0,0)) (by (with_reducible repeat (first | refine blk_drewN ?_ _ | refine blk_drew ?_ | refine blk_alloc ?_ _));refine blk_far ?_ NB276_284.out _;(with_reducible repeat (first | refine blk_drewN ?_ _ | refine blk_drew ?_ | refine blk_alloc ?_ _));refine blk_far ?_ NB276_284.out _;(with_reducible repeat (first | refine blk_drewN ?_ _ | refine blk_drew ?_ | refine blk_alloc ?_ _));refine blk_far ?_ NB276_284.out _;(with_reducible repeat (first | refine blk_drewN ?_ _ | refine blk_drew ?_ | refine blk_alloc ?_ _));refine blk_far ?_ NB276_284.out _;(with_reducible repeat (first | refine blk_drewN ?_ _ | refine blk_drew ?_ | refine blk_alloc ?_ _));refine blk_far ?_ NB276_284.out _;(with_reducible repeat (first | refine blk_drewN ?_ _ | refine blk_drew ?_ | refine blk_alloc ?_ _));refine blk_far ?_ NB276_284.out _;(with_reducible repeat (first | refine blk_drewN ?_ _ | refine blk_drew ?_ | refine blk_alloc ?_ _));refine blk_far ?_ NB276_284.out _;(with_reducible repeat (first | refine blk_drewN ?_ _ | refine blk_drew ?_ | refine blk_alloc ?_ _));exact BK276.out) hb);have n1_:=Aside0.mk (blk_below (g:=gb284) (o:=.cells #[.int .i64 t277,.int .i64 t278,.int .i64 t279,.string t280,.string t281,.int .i64 t282,.int .i64 t283] 25 (0,0)) (by (with_reducible repeat (first | refine blk_drewN ?_ _ | refine blk_drew ?_ | refine blk_alloc ?_ _));refine blk_put (cs:=#[.int .i64 t277,.int .i64 t278,.int .i64 t279,.string t280,.string t281,.int .i64 t282,.int .i64 0]) ?_ 6 _ rfl;(with_reducible repeat (first | refine blk_drewN ?_ _ | refine blk_drew ?_ | refine blk_alloc ?_ _));refine blk_put (cs:=#[.int .i64 t277,.int .i64 t278,.int .i64 t279,.string t280,.string t281,.int .i64 0,.int .i64 0]) ?_ 5 _ rfl;(with_reducible repeat (first | refine blk_drewN ?_ _ | refine blk_drew ?_ | refine blk_alloc ?_ _));refine blk_put (cs:=#[.int .i64 t277,.int .i64 t278,.int .i64 t279,.string t280,.string (⟨#[]⟩:ByteArray),.int .i64 0,.int .i64 0]) ?_ 4 _ rfl;(with_reducible repeat (first | refine blk_drewN ?_ _ | refine blk_drew ?_ | refine blk_alloc ?_ _));refine blk_put (cs:=#[.int .i64 t277,.int .i64 t278,.int .i64 t279,.string (⟨#[]⟩:ByteArray),.string (⟨#[]⟩:ByteArray),.int .i64 0,.int .i64 0]) ?_ 3 _ rfl;(with_reducible repeat (first | refine blk_drewN ?_ _ | refine blk_drew ?_ | refine blk_alloc ?_ _));refine blk_put (cs:=#[.int .i64 t277,.int .i64 t278,.int .i64 0,.string (⟨#[]⟩:ByteArray),.string (⟨#[]⟩:ByteArray),.int .i64 0,.int .i64 0]) ?_ 2 _ rfl;(with_reducible repeat (first | refine blk_drewN ?_ _ | refine blk_drew ?_ | refine blk_alloc ?_ _));refine blk_put (cs:=#[.int .i64 t277,.int .i64 0,.int .i64 0,.string (⟨#[]⟩:ByteArray),.string (⟨#[]⟩:ByteArray),.int .i64 0,.int .i64 0]) ?_ 1 _ rfl;(with_reducible repeat (first | refine blk_drewN ?_ _ | refine blk_drew ?_ | refine blk_alloc ?_ _));refine blk_put (cs:=#[.int .i64 0,.int .i64 0,.int .i64 0,.string (⟨#[]⟩:ByteArray),.string (⟨#[]⟩:ByteArray),.int .i64 0,.int .i64 0]) ?_ 0 _ rfl;(with_reducible repeat (first | refine blk_drewN ?_ _ | refine blk_drew ?_ | refine blk_alloc ?_ _));exact BK284.out) hb);have n2_:=Aside0.mk (below_step (by repeat (first | (with_reducible first | exact HB.out | apply below_alloc | apply pw_below_drewN | apply below_drew1 | refine below_set ?_ GE276.out | refine below_set ?_ GE284.out) | exact HB.out)) hb);clear BK276;clear BK284;clear HB;have BK276:=n0_;have BK284:=n1_;have HB:=n2_;clear n0_ n1_ n2_;(try clear hb);(try clear hb2);(try clear hk);(try clear hi)))
   go_ret
   exact ⟨by first | rfl | (simp [errW_none,errW_some] <;> rfl) | (simp [*,errW_none,errW_some] <;> rfl),by repeat (first | (with_reducible first | exact HB.out | apply below_alloc | apply pw_below_drewN | apply below_drew1 | refine below_set ?_ GE276.out | refine below_set ?_ GE284.out) | exact HB.out)⟩
  ·replace c6:=Bool.eq_false_iff.mpr c6
   subst c6
   have H1:(none)=some r:=by rw [if_neg (show ¬ (false=true) by decide)] at H;exact H
   clear H
   have H:=H1
   clear H1
   exact absurd H (by simp)

end Go.Proofs.YtkaojnmgflaldaaDoor.P

namespace Go.Proofs.YtkaojnmgflaldaaDoor.P
open Go.RowKit
def Y21.Pure:Prop:=∀ (x0:ByteArray),x0.size≤140737488351232→∃ k,Y21.f k x0=some true
end Go.Proofs.YtkaojnmgflaldaaDoor.P

namespace Go.Proofs.YtkaojnmgflaldaaDoor.Q
open Go.RowKit Go.Proofs.YtkaojnmgflaldaaDoorW.PrintWords Go.Proofs.YtkaojnmgflaldaaDoorW.PrintMore

theorem w64 {x:Int} (h0 : -9223372036854775808≤x) (h1:x≤9223372036854775807):wrap64 x=x:=by unfold wrap64;omega
theorem evIte {α:Type} {c:Prop} [Decidable c] {f g:Nat→Option α} {r:α} (h:c→Ev f r) (h':¬ c→Ev g r):Ev (fun k=>if c then f k else g k) r:=by
  by_cases hc:c
  · simp only [if_pos hc];exact h hc
  · simp only [if_neg hc];exact h' hc
theorem evPos {α:Type} {c:Prop} [Decidable c] {f g:Nat→Option α} {r:α} (hc:c) (h:Ev f r):Ev (fun k=>if c then f k else g k) r:=by
  simp only [if_pos hc];exact h
theorem evNeg {α:Type} {c:Prop} [Decidable c] {f g:Nat→Option α} {r:α} (hc:¬ c) (h:Ev g r):Ev (fun k=>if c then f k else g k) r:=by
  simp only [if_neg hc];exact h
theorem evBind1 {α β:Type} {g:Option α} {f:Nat→α→Option β} {a:α} {r:β} (h:g=some a) (k:Ev (fun n=>f n a) r):Ev (fun n=>g.bind (f n)) r:=by
  subst h;exact k
theorem dropCons {α:Type} {l:List α} {i:Nat} {a:α} {s:List α} (h:l.drop i=a :: s) (d:α):i<l.length∧l.getD i d=a∧l.drop (i+1)=s:=by
  have hl:i<l.length:=by
    have:=congrArg List.length h
    simp at this;omega
  rw [List.drop_eq_getElem_cons hl] at h
  injection h with h1 h2
  exact ⟨hl,by rw [List.getD_eq_getElem?_getD,List.getElem?_eq_getElem hl];exact h1,h2⟩
theorem dropNil {α:Type} {l:List α} {i:Nat} (h:l.drop i=[]):l.length≤i:=by
  have:=congrArg List.length h
  simp at this;omega
theorem dropNil' {α:Type} {l:List α} {i:Nat} (h:l.drop i=[]) (hi:i≤l.length):l.length=i:=by
  have:=dropNil h;omega
end Go.Proofs.YtkaojnmgflaldaaDoor.Q

namespace Go.Proofs.YtkaojnmgflaldaaDoor.Q
open Go.RowKit Go.Proofs.YtkaojnmgflaldaaDoor.P Go.Proofs.YtkaojnmgflaldaaDoorW.PrintWords Go.Proofs.YtkaojnmgflaldaaDoorW.PrintMore

theorem toList_loop (b:ByteArray):∀ (n i:Nat) (r:List UInt8),b.size-i=n→ByteArray.toList.loop b i r=r.reverse ++ b.data.toList.drop i:=by
  intro n
  induction n with
  | zero =>
    intro i r h
    unfold ByteArray.toList.loop
    have hs:b.data.toList.length=b.size:=by rw [Array.length_toList];rfl
    rw [if_neg (by omega),List.drop_of_length_le (by omega),List.append_nil]
  | succ n ih =>
    intro i r h
    unfold ByteArray.toList.loop
    have hs:b.data.toList.length=b.size:=by rw [Array.length_toList];rfl
    rw [if_pos (by omega),ih (i+1) _ (by omega),List.drop_eq_getElem_cons (i:=i) (by omega)]
    have:b.get! i=b.data.toList[i]'(by omega):=by
      have hi:i<b.data.size:=by rw [← Array.length_toList];omega
      show b.data[i]! = _
      rw [getElem!_pos b.data i hi]
      simp
    simp [this]
theorem toList_data (b:ByteArray):b.toList=b.data.toList:=by
  unfold ByteArray.toList
  rw [toList_loop b _ 0 [] rfl]
  simp
theorem toList_inj {a b:ByteArray} (h:a.toList=b.toList):a=b:=by
  rw [toList_data,toList_data] at h
  obtain ⟨a⟩:=a
  obtain ⟨b⟩:=b
  simp only [ByteArray.mk.injEq]
  exact Array.toList_inj.1 h
theorem toList_nil {s:ByteArray} (h:s.toList=[]):s.size=0:=by
  have h5:s.data.toList.length=s.size:=(by rw [Array.length_toList];rfl)
  rw [← toList_data,h] at h5
  simpa using h5.symm
def isWithin (n low high:Int):Bool:=decide (low≤n) && decide (n≤high)
theorem l02Is_is (n a b:Int):Y25.f n a b=some (isWithin n a b):=by
  unfold Y25.f isWithin
  split
  · rename_i h;simp [show a≤n from h]
  · rename_i h;simp [show ¬ a≤n from h]
theorem within_is (n a b:Int):Y22.f n a b=some (isWithin n a b):=by
  unfold Y22.f isWithin
  split
  · rename_i h;simp [show a≤n from h]
  · rename_i h;simp [show ¬ a≤n from h]
end Go.Proofs.YtkaojnmgflaldaaDoor.Q

namespace Go.Proofs.YtkaojnmgflaldaaDoor.Q
open Go.RowKit Go.Proofs.YtkaojnmgflaldaaDoor.P Go.Proofs.YtkaojnmgflaldaaDoorW.PrintWords Go.Proofs.YtkaojnmgflaldaaDoorW.PrintMore

def lowCh (c:Int):Bool:=decide (97≤c) && decide (c≤122)
def nameCh (c:Int):Bool:=lowCh c || (decide (48≤c) && decide (c≤57)) || decide (c=95)
def nameList:List Int→Bool
  | []=>false
  | c :: r=>lowCh c && r.all nameCh
def nameOk (s:ByteArray):Bool:=decide (s.size≤20) && nameList (bytesOf s)
theorem bt_of {s:ByteArray} {i:Nat} {c:Int} (h:(bytesOf s).getD i 0=c):bt s (i:Int)=c:=by
  rw [← rd_bytesOf];simpa [rd] using h
theorem spec_name_round (s:ByteArray) (k i:Nat) (hi:i<s.size) (h1:1≤i) (hs:s.size≤1048576) :
    Y11.l0 (k+1) s (i:Int)=if nameCh (bt s i) then Y11.l0 k s ((i+1:Nat):Int) else some false:=by
  simp only [Y11.l0]
  rw [if_pos (by omega),if_pos (by omega),w64 (by omega) (by omega)]
  have h0:¬ ((i:Int)=0):=by omega
  simp only [if_neg h0,nameCh,lowCh]
  generalize bt s i=c
  by_cases h1:97≤c <;> by_cases h2:c≤122 <;> by_cases h3:48≤c <;> by_cases h4:c≤57 <;> by_cases h5:c=95 <;> first | (exfalso;omega) | simp [ge_iff_le,h1,h2,h3,h4,h5]
theorem spec_name_first (s:ByteArray) (k:Nat) (hi:0<s.size) (hs:s.size≤1048576) :
    Y11.l0 (k+1) s 0=if lowCh (bt s 0) then Y11.l0 k s 1 else some false:=by
  simp only [Y11.l0]
  rw [if_pos (by omega),if_pos (by omega),w64 (by omega) (by omega)]
  simp only [if_true,lowCh,Int.zero_add]
  generalize bt s 0=c
  by_cases h1:97≤c <;> by_cases h2:c≤122 <;> first | (exfalso;omega) | simp [ge_iff_le,h1,h2]
theorem spec_name_l0 (s:ByteArray) (hs:s.size≤1048576):∀ (r:List Int) (i:Nat),(bytesOf s).drop i=r→i≤s.size→1≤i→Ev (fun k=>Y11.l0 k s (i:Int)) (r.all nameCh)
  | [],i,h,hi,h1=>by
    have:=dropNil h
    rw [bytesOf_length] at this
    refine Ev.step (f:=fun _=>some true) (fun k=>?_) (Ev.now _)
    simp only [Y11.l0]
    rw [if_neg (by omega)]
  | c :: r,i,h,hi,h1=>by
    obtain ⟨g1,g2,g3⟩:=dropCons h 0
    rw [bytesOf_length] at g1
    have hb:=bt_of g2
    refine Ev.step (fun k=>spec_name_round s k i g1 h1 hs) ?_
    rw [hb]
    refine evIte (fun hc=>?_) (fun hc=>?_)
    · simp only [List.all_cons,hc,Bool.true_and];exact spec_name_l0 s hs r (i+1) g3 (by omega) (by omega)
    · simp only [List.all_cons,Bool.eq_false_iff.mpr hc,Bool.false_and];exact Ev.now _
theorem spec_NameRight_ev (s:ByteArray) (hs:s.size≤1048576):Ev (fun k=>Y11.f k s) (nameOk s):=by
  have hl:=bytesOf_length s
  unfold Y11.f nameOk
  refine evIte (fun h=>?_) (fun h=>?_)
  · refine Ev.step (f:=fun _=>some false) (fun k=>by simp only [Y11.j0];rw [if_pos trivial]) ?_
    have:bytesOf s=[]:=by rw [← List.length_eq_zero_iff,hl];omega
    simp only [this,nameList,Bool.and_false]
    exact Ev.now _
  · by_cases h20:(s.size:Int)>20
    · refine Ev.step (f:=fun _=>some false) (fun k=>by simp only [Y11.j0];rw [if_pos (by simpa using h20)]) ?_
      have:¬ s.size≤20:=by omega
      simp only [this,decide_false,Bool.false_and]
      exact Ev.now _
    · refine Ev.step (fun k=>by simp only [Y11.j0];rw [if_neg (by simpa using h20)]) ?_
      have h20':s.size≤20:=by omega
      simp only [h20',decide_true,Bool.true_and]
      cases hb:bytesOf s with
      | nil=>rw [hb] at hl;simp at hl;omega
      | cons c r =>
        have hc:bt s ((0:Nat):Int)=c:=bt_of (by rw [hb];rfl)
        refine Ev.step (fun k=>spec_name_first s k (by omega) hs) ?_
        rw [show (0:Int)=((0:Nat):Int) from rfl,hc]
        refine evIte (fun h1=>?_) (fun h1=>?_)
        · simp only [nameList,h1,Bool.true_and]
          exact spec_name_l0 s hs r 1 (by rw [hb];rfl) (by omega) (by omega)
        · simp only [nameList,Bool.eq_false_iff.mpr h1,Bool.false_and];exact Ev.now _
theorem impl_name_round (s:ByteArray) (k i:Nat) (hi:i<s.size) (hs:s.size≤140737488351232) :
    Y6.l0 (k+1) s (s.size:Int) (i:Int)=if nameCh (bt s i) then Y6.l0 k s (s.size:Int) ((i+1:Nat):Int) else some false:=by
  simp only [Y6.l0]
  rw [if_pos (by omega),if_pos (by omega),if_pos (by omega),w64 (by omega) (by omega)]
  simp only [nameCh,lowCh]
  generalize bt s i=c
  by_cases h1:97≤c <;> by_cases h2:c≤122 <;> by_cases h3:48≤c <;> by_cases h4:c≤57 <;> by_cases h5:c=95 <;> first | (exfalso;omega) | simp [ge_iff_le,h1,h2,h3,h4,h5]
theorem impl_name_l0 (s:ByteArray) (hs:s.size≤140737488351232):∀ (r:List Int) (i:Nat),(bytesOf s).drop i=r→i≤s.size→Ev (fun k=>Y6.l0 k s (s.size:Int) (i:Int)) (r.all nameCh)
  | [],i,h,hi=>by
    have:=dropNil h
    rw [bytesOf_length] at this
    refine Ev.step (f:=fun _=>some true) (fun k=>?_) (Ev.now _)
    simp only [Y6.l0]
    rw [if_neg (by omega)]
  | c :: r,i,h,hi=>by
    obtain ⟨g1,g2,g3⟩:=dropCons h 0
    rw [bytesOf_length] at g1
    have hb:=bt_of g2
    refine Ev.step (fun k=>impl_name_round s k i g1 hs) ?_
    rw [hb]
    refine evIte (fun hc=>?_) (fun hc=>?_)
    · simp only [List.all_cons,hc,Bool.true_and];exact impl_name_l0 s hs r (i+1) g3 (by omega)
    · simp only [List.all_cons,Bool.eq_false_iff.mpr hc,Bool.false_and];exact Ev.now _
theorem low_name {c:Int} (h:lowCh c=true):nameCh c=true:=by simp [nameCh,h]
theorem impl_NameRight_ev (s:ByteArray) (hs:s.size≤140737488351232):Ev (fun k=>Y6.f k s) (nameOk s):=by
  have hl:=bytesOf_length s
  unfold Y6.f nameOk Y41.f
  refine evBind1 rfl (evBind1 (within_is _ _ _) ?_)
  refine evIte (fun h=>?_) (fun h=>?_)
  · have hw:1≤(s.size:Int)∧(s.size:Int)≤20:=by simpa [isWithin] using h
    refine evPos (by omega) ?_
    have h20':s.size≤20:=by omega
    simp only [h20',decide_true,Bool.true_and]
    cases hb:bytesOf s with
    | nil=>rw [hb] at hl;simp at hl;omega
    | cons c r =>
      have hc:bt s ((0:Nat):Int)=c:=bt_of (by rw [hb];rfl)
      have hc':bt s 0=c:=hc
      rw [hc']
      refine evIte (fun h1=>?_) (fun h1=>?_)
      · refine Ev.step (f:=fun _=>some false) (fun k=>by simp only [Y6.j0];rw [if_pos trivial]) ?_
        have:lowCh c=false:=by simp [lowCh];omega
        simp only [nameList,this,Bool.false_and];exact Ev.now _
      · by_cases h2:c>122
        · refine Ev.step (f:=fun _=>some false) (fun k=>by simp only [Y6.j0];rw [if_pos (by simpa using h2)]) ?_
          have:lowCh c=false:=by simp [lowCh];omega
          simp only [nameList,this,Bool.false_and];exact Ev.now _
        · refine Ev.step (fun k=>by simp only [Y6.j0];rw [if_neg (by simpa using h2)]) ?_
          have hlow:lowCh c=true:=by simp [lowCh];omega
          simp only [nameList,hlow,Bool.true_and]
          have:=impl_name_l0 s hs (c :: r) 0 (by rw [hb];rfl) (by omega)
          simpa [low_name hlow] using this
  · refine Ev.step (f:=fun _=>some false) (fun k=>by simp only [Y6.j0];rw [if_pos trivial]) ?_
    have hw:isWithin (s.size:Int) 1 20=false:=by simpa using h
    have:(decide (s.size≤20) && nameList (bytesOf s))=false:=by
      by_cases h20:s.size≤20
      · have:bytesOf s=[]:=by
          rw [← List.length_eq_zero_iff,hl]
          simp [isWithin] at hw;omega
        simp [this,nameList]
      · simp [h20]
    rw [this]
    exact Ev.now _
end Go.Proofs.YtkaojnmgflaldaaDoor.Q

namespace Go.Proofs.YtkaojnmgflaldaaDoor.Q
open Go.RowKit Go.Proofs.YtkaojnmgflaldaaDoor.P Go.Proofs.YtkaojnmgflaldaaDoorW.PrintWords Go.Proofs.YtkaojnmgflaldaaDoorW.PrintMore

def hasA (n:Int):Bool:=!(n == 8 || (n == 15 || n == 16))
def hasB (n:Int):Bool:=n == 2 || (n == 3 || n == 17)
def hasK (n:Int):Bool:=n == 1 || (n == 2 || (n == 3 || (n == 4 || n == 16)))
def hasD (n:Int):Bool:=n == 1 || n == 2
def isKind (n:Int):Bool:=isWithin n 1 17
def hasPower (n:Int):Bool:=n == 1 || (n == 2 || (n == 3 || (n == 5 || n == 14)))
def smallOk (x:Int) (t:Bool):Bool:=x == 0 || (t && isWithin x 0 999999)
def keyOk (k:Bool) (key:ByteArray):Bool:=if k=true then nameOk key else key.toList == []
def datOk (d:Bool) (data:ByteArray):Bool:=if d=true then nameOk data && decide (data.size≤16) else data.toList == []
def powOk (n pw:Int):Bool:=pw == -1 || (hasPower n && isWithin pw (-1) 10000)
def actOk (n a b:Int) (key data:ByteArray) (pw:Int):Bool :=
  isKind n && (powOk n pw && (smallOk a (hasA n) && (smallOk b (hasB n) && (keyOk (hasK n) key && datOk (hasD n) data))))
theorem kinds (n:Int) (h:isKind n=true):n=1∨n=2∨n=3∨n=4∨n=5∨n=6∨n=7∨n=8∨n=9∨n=10∨n=11∨n=12∨n=13∨n=14∨n=15∨n=16∨n=17:=by
  simp only [isKind,isWithin,Bool.and_eq_true,decide_eq_true_eq] at h
  omega
theorem l15Has_ev (n:Int):Ev (fun k=>Y12.f k n) (hasA n,hasB n,hasK n,hasD n):=by
  unfold Y12.f
  by_cases h1:n=1
  · subst h1;exact evPos rfl (Ev.now _)
  refine evNeg h1 ?_
  by_cases h2:n=2
  · subst h2;exact evPos rfl (Ev.now _)
  refine evNeg h2 ?_
  by_cases h3:n=3
  · subst h3;exact evPos rfl (Ev.now _)
  refine evNeg h3 ?_
  by_cases h4:n=4
  · subst h4;exact evPos rfl (Ev.now _)
  refine evNeg h4 ?_
  by_cases h8:n=8
  · subst h8;exact evPos rfl (Ev.step (f:=fun _=>some (false,false,false,false)) (fun k=>by simp [Y12.j0]) (Ev.now _))
  refine evNeg h8 ?_
  by_cases h15:n=15
  · subst h15;exact Ev.step (f:=fun _=>some (false,false,false,false)) (fun k=>by simp [Y12.j0]) (Ev.now _)
  by_cases h16:n=16
  · subst h16;exact Ev.step (f:=fun _=>some (false,false,true,false)) (fun k=>by simp [Y12.j0]) (Ev.now _)
  by_cases h17:n=17
  · subst h17;exact Ev.step (f:=fun _=>some (true,true,false,false)) (fun k=>by simp [Y12.j0]) (Ev.now _)
  refine Ev.step (f:=fun _=>some (true,false,false,false)) (fun k=>by simp [Y12.j0,h15,h16,h17]) ?_
  simp only [hasA,hasB,hasK,hasD,beq_eq_false_iff_ne.2 h1,beq_eq_false_iff_ne.2 h2,beq_eq_false_iff_ne.2 h3,beq_eq_false_iff_ne.2 h4,beq_eq_false_iff_ne.2 h8,beq_eq_false_iff_ne.2 h15,beq_eq_false_iff_ne.2 h16,beq_eq_false_iff_ne.2 h17,Bool.or_false,Bool.not_false]
  exact Ev.now _
theorem l15Word_ev (n:Int):∃ w,Ev (fun k=>Y9.f k n) w∧(w.toList=[] ↔ isKind n=false):=by
  have j0T:∀ y,Ev (fun k=>Y9.j0 k n y true) ⟨#[]⟩:=fun y=>Ev.step (f:=fun _=>some ⟨#[]⟩) (fun k=>by simp [Y9.j0]) (Ev.now _)
  have e0:(⟨#[]⟩:ByteArray).toList=[]:=by rw [toList_data]
  have jT:∀ y:List ByteArray,n≥(y.length:Int)→Ev (fun k=>Y9.j0 k n y (decide (n≥(y.length:Int)))) ⟨#[]⟩:=fun y h=>by rw [decide_eq_true h];exact j0T y
  have jF:∀ y:List ByteArray,¬ n≥(y.length:Int)→¬ n<1→Ev (fun k=>Y9.j0 k n y (decide (n≥(y.length:Int)))) (rdOf ByteArray.empty y n):=fun y h h0=>by
    rw [decide_eq_false h]
    refine Ev.step (f:=fun _=>some (rdOf ByteArray.empty y n)) (fun k=>?_) (Ev.now _)
    simp only [Y9.j0]
    rw [if_neg (by simp),if_pos (by omega),if_pos (by omega)]
  unfold Y9.f
  by_cases h0:n<1
  · exact ⟨_,evBind1 rfl (evPos h0 (j0T _)),by simp only [e0,isKind,isWithin,true_iff,Bool.and_eq_false_iff,decide_eq_false_iff_not];omega⟩
  · by_cases h1:n≥18
    · exact ⟨⟨#[]⟩,evBind1 rfl (evNeg h0 (jT _ (by simpa using h1))),by simp only [e0,isKind,isWithin,true_iff,Bool.and_eq_false_iff,decide_eq_false_iff_not];omega⟩
    · have hk:isKind n=true:=by simp only [isKind,isWithin,Bool.and_eq_true,decide_eq_true_eq];omega
      refine ⟨_,evBind1 rfl (evNeg h0 (jF _ (by simpa using h1) h0)),?_⟩
      · rw [hk,toList_data]
        obtain rfl | rfl | rfl | rfl | rfl | rfl | rfl | rfl | rfl | rfl | rfl | rfl | rfl | rfl | rfl | rfl | rfl:=kinds n hk
        all_goals decide
theorem l15Powered_is (n:Int):Y36.f n=some (hasPower n):=by
  unfold Y36.f hasPower
  by_cases h1:n≥1
  · rw [if_pos h1]
    by_cases h3:n≤3
    · rw [if_pos h3]
      obtain rfl | rfl | rfl:n=1∨n=2∨n=3:=by omega
      all_goals rfl
    · rw [if_neg h3,beq_eq_false_iff_ne.2 (show n≠1 by omega),beq_eq_false_iff_ne.2 (show n≠2 by omega),beq_eq_false_iff_ne.2 (show n≠3 by omega)]
      by_cases h5:n=5
      · subst h5;rfl
      · rw [if_neg h5,beq_eq_false_iff_ne.2 h5];rfl
  · rw [if_neg h1,if_neg (by omega),beq_eq_false_iff_ne.2 (show n≠1 by omega),beq_eq_false_iff_ne.2 (show n≠2 by omega),beq_eq_false_iff_ne.2 (show n≠3 by omega),beq_eq_false_iff_ne.2 (show n≠5 by omega)];rfl
theorem powered_ev (n:Int):Ev (fun k=>Y16.f k n) (hasPower n):=by
  have j:∀ b:Bool,Ev (fun k=>Y16.j0 k b) b:=fun b=>by
    cases b with
    | true=>exact Ev.step (f:=fun _=>some true) (fun k=>by simp [Y16.j0]) (Ev.now _)
    | false=>exact Ev.step (f:=fun _=>some false) (fun k=>by simp [Y16.j0]) (Ev.now _)
  unfold Y16.f
  by_cases h1:n=1
  · subst h1;exact evPos rfl (j true)
  refine evNeg h1 ?_
  by_cases h2:n=2
  · subst h2;exact evPos rfl (j true)
  refine evNeg h2 ?_
  by_cases h3:n=3
  · subst h3;exact evPos rfl (j true)
  refine evNeg h3 ?_
  by_cases h5:n=5
  · subst h5;exact evPos rfl (j true)
  refine evNeg h5 ?_
  have:hasPower n=(n == 14):=by
    simp only [hasPower,beq_eq_false_iff_ne.2 h1,beq_eq_false_iff_ne.2 h2,beq_eq_false_iff_ne.2 h3,beq_eq_false_iff_ne.2 h5,Bool.false_or]
  rw [this]
  exact j _
theorem indexByte_mem (c:UInt8):∀ l:List UInt8,decide (Lib.indexByte l c≥0)=l.contains c
  | []=>by simp [Lib.indexByte]
  | b :: l=>by
    have ih:=indexByte_mem c l
    have hge:=Lib.indexByte_ge l c
    have hrec:Lib.indexByte (b :: l) c=if (b == c)=true then 0 else if (Lib.indexByte l c == -1)=true then -1 else Lib.indexByte l c+1:=by simp only [Lib.indexByte]
    rw [hrec]
    by_cases hb:(b == c)=true
    · rw [if_pos hb]
      have:b=c:=by simpa using hb
      subst this
      simp
    · rw [if_neg hb]
      have hb':(b == c)=false:=by simpa using hb
      have:(c == b)=false:=by rw [beq_eq_false_iff_ne] at hb' ⊢;exact fun e=>hb' e.symm
      rw [List.contains_cons,this,Bool.false_or,← ih]
      by_cases hm:Lib.indexByte l c = -1
      · rw [hm]
        rfl
      · rw [if_neg (by simpa using hm),decide_eq_true (show Lib.indexByte l c+1≥0 by omega),decide_eq_true (show Lib.indexByte l c≥0 by omega)]
theorem cap_ev (c:UInt8) (s:ByteArray):Ev (fun k=>Y0.f k (⟨#[c]⟩:ByteArray) s) (s.data.toList.contains c):=by
  have hc1:((⟨#[c]⟩:ByteArray).size:Int)=1:=rfl
  have hbt:(bt (⟨#[c]⟩:ByteArray) 0).toNat.toUInt8=c:=by
    have:bt (⟨#[c]⟩:ByteArray) 0=(c.toNat:Int):=rfl
    rw [this,Int.toNat_natCast]
    simp
  unfold Y0.f Y24.f Y30.f Y17.f
  by_cases he:(⟨#[c]⟩:ByteArray).toList=s.toList
  · have hs:s=⟨#[c]⟩:=(toList_inj he).symm
    subst hs
    refine Ev.bind (a:=decide ((0:Int)≥0)) (Ev.bind (a:=(0:Int)) (Ev.bind (a:=(0:Int)) (evNeg (by rw [hc1];omega) ?_) (Ev.now _)) (Ev.now _)) ?_
    · rw [beq_self_eq_true]
      exact Ev.step (f:=fun _=>some 0) (fun k=>by simp [Y17.j0]) (Ev.now _)
    · have:((⟨#[c]⟩:ByteArray).data.toList.contains c)=true:=by simp
      rw [this]
      exact (Ev.now true)
  · have hb:((⟨#[c]⟩:ByteArray).toList == s.toList)=false:=beq_eq_false_iff_ne.2 he
    rw [← indexByte_mem c s.data.toList,hb,hc1]
    refine Ev.bind (Ev.bind (Ev.bind (evNeg (by omega) (Ev.step (f:=fun _=>some (Lib.indexByte s.data.toList c)) (fun k=>?_) (Ev.now _))) (Ev.now _)) (Ev.now _)) (Ev.now _)
    simp only [Y17.j0,Y32.f,hbt]
    rw [if_neg (by simp),if_pos trivial,if_pos (by rw [hc1];omega)]
    rfl
theorem small_is (x:Int) (t:Bool):Y19.f x t=some (smallOk x t):=by
  unfold Y19.f smallOk
  by_cases h:x=0
  · simp [h]
  · rw [if_neg h,within_is,beq_eq_false_iff_ne.2 h]
    cases t <;> simp
theorem isPower_is (x:Int):Y35.f x=some (isWithin x (-1) 10000):=by simp [Y35.f,within_is]
/-- The letters of a kind's form. -/
def formOf (n:Int):ByteArray:=match Y20.f with
  | some l=>(rd_T50 l (n-1)).f1
  | none=>⟨#[]⟩
theorem forms_is:∃ l,Y20.f=some l∧l.length=17∧∀ n,formOf n=(rd_T50 l (n-1)).f1:=⟨_,rfl,rfl,fun _=>rfl⟩
theorem form_has (n:Int) (h:isKind n=true):(formOf n).data.toList.contains 65=hasA n∧(formOf n).data.toList.contains 66=hasB n∧(formOf n).data.toList.contains 75=hasK n∧(formOf n).data.toList.contains 68=hasD n:=by
  obtain rfl | rfl | rfl | rfl | rfl | rfl | rfl | rfl | rfl | rfl | rfl | rfl | rfl | rfl | rfl | rfl | rfl:=kinds n h
  all_goals decide
theorem dpart (f data:ByteArray) (hd:data.size≤1048576) (d:Bool) (hD:Ev (fun k=>Y0.f k (⟨#[68]⟩:ByteArray) f) d) :
    Ev (fun k=>(Y0.f k (⟨#[68]⟩:ByteArray) f).bind fun t150=>(if t150=true then ((Y6.f k data).bind fun t151=>(if t151=true then (if (data.size:Int)≤16 then (some true) else ((Y0.f k (⟨#[68]⟩:ByteArray) f).bind fun t152=>(if t152=true then (some false) else (some (data.toList == ([]:List UInt8)))))) else ((Y0.f k (⟨#[68]⟩:ByteArray) f).bind fun t153=>(if t153=true then (some false) else (some (data.toList == ([]:List UInt8))))))) else ((Y0.f k (⟨#[68]⟩:ByteArray) f).bind fun t154=>(if t154=true then (some false) else (some (data.toList == ([]:List UInt8))))))) (datOk d data):=by
  refine Ev.bind hD ?_
  cases d with
  | true =>
    refine evPos rfl (Ev.bind (impl_NameRight_ev data (by omega)) ?_)
    unfold datOk
    cases nameOk data with
    | true =>
      refine evPos rfl ?_
      by_cases h:data.size≤16
      · simpa [h] using evPos (g:=fun k=>(Y0.f k (⟨#[68]⟩:ByteArray) f).bind fun t152=>(if t152=true then (some false) else (some (data.toList == ([]:List UInt8))))) (show (data.size:Int)≤16 by omega) (Ev.now true)
      · refine evNeg (by omega) (Ev.bind hD (evPos rfl ?_))
        simpa [h] using Ev.now false
    | false=>exact evNeg (by simp) (Ev.bind hD (evPos rfl (by simpa using Ev.now false)))
  | false=>exact evNeg (by simp) (Ev.bind hD (evNeg (by simp) (Ev.now _)))
theorem act_j1 (n a b:Int) (key data:ByteArray) (pw:Int) (f:ByteArray) (hk:key.size≤1048576) (hd:data.size≤1048576) (k d:Bool) (hK:Ev (fun q=>Y0.f q (⟨#[75]⟩:ByteArray) f) k) (hD:Ev (fun q=>Y0.f q (⟨#[68]⟩:ByteArray) f) d) (c:Bool) :
    Ev (fun q=>Y3.j1 q (!c) n a b key data pw f) (c && (keyOk k key && datOk d data)):=by
  have hdp:=dpart f data hd d hD
  cases c with
  | false=>exact Ev.step (f:=fun _=>some false) (fun k=>by simp [Y3.j1]) (Ev.now _)
  | true =>
    refine Ev.step (fun k=>by simp only [Y3.j1];rw [if_neg (by simp)]) (Ev.bind hK ?_)
    cases k with
    | true =>
      refine evPos rfl (Ev.bind (impl_NameRight_ev key (by omega)) ?_)
      unfold keyOk
      cases nameOk key with
      | true=>exact evPos rfl (by simpa using hdp)
      | false=>exact evNeg (by simp) (Ev.bind hK (evPos rfl (by simpa using Ev.now false)))
    | false =>
      refine evNeg (by simp) (Ev.bind hK (evNeg (by simp) ?_))
      unfold keyOk
      by_cases h:key.toList=[]
      · exact evPos h (by simpa [h] using hdp)
      · have hf:(key.toList == ([]:List UInt8))=false:=beq_eq_false_iff_ne.2 h
        exact evNeg h (by simp only [hf,Bool.true_and,Bool.false_and,Bool.and_false,Bool.false_or,Bool.or_false,Bool.not_false,Bool.false_eq_true,↓reduceIte];exact Ev.now false)
theorem act_j0 (n a b:Int) (key data:ByteArray) (pw:Int) (hn:isKind n=true) (hk:key.size≤1048576) (hd:data.size≤1048576) (c:Bool) :
    Ev (fun q=>Y3.j0 q (!c) n a b key data pw) (c && (smallOk a (hasA n) && (smallOk b (hasB n) && (keyOk (hasK n) key && datOk (hasD n) data)))):=by
  cases c with
  | false=>exact Ev.step (f:=fun _=>some false) (fun k=>by simp [Y3.j0]) (Ev.now _)
  | true =>
    obtain ⟨l,e,hl,hf⟩:=forms_is
    obtain ⟨g1,g2,g3,g4⟩:=form_has n hn
    have hn':1≤n∧n≤17:=by simpa [isKind,isWithin] using hn
    have hw:wrap64 (n-1)=n-1:=w64 (by omega) (by omega)
    have cA:=cap_ev 65 (formOf n)
    have cB:=cap_ev 66 (formOf n)
    have cK:=cap_ev 75 (formOf n)
    have cD:=cap_ev 68 (formOf n)
    rw [g1] at cA
    rw [g2] at cB
    rw [g3] at cK
    rw [g4] at cD
    have j1:=act_j1 n a b key data pw (formOf n) hk hd (hasK n) (hasD n) cK cD
    rw [hf n] at cA cB j1
    refine Ev.step (f:=fun k=>(Y0.f k (⟨#[65]⟩:ByteArray) ((rd_T50 l (n-1)).f1)).bind fun t144=>((Y19.f a t144).bind fun t145=>(if t145=true then ((Y0.f k (⟨#[66]⟩:ByteArray) ((rd_T50 l (n-1)).f1)).bind fun t146=>((Y19.f b t146).bind fun t147=>(Y3.j1 k (!t147) n a b key data pw ((rd_T50 l (n-1)).f1)))) else (Y3.j1 k true n a b key data pw ((rd_T50 l (n-1)).f1))))) (fun k=>?_) (Ev.bind cA (evBind1 (small_is _ _) ?_))
    · simp only [Y3.j0,e,Option.bind_some,hw]
      rw [if_neg (by simp),if_pos (by omega),if_pos (by rw [hl];omega)]
    · cases smallOk a (hasA n) with
      | false=>exact evNeg (by simp) (by simpa using j1 false)
      | true=>exact evPos rfl (Ev.bind cB (evBind1 (small_is _ _) (by simpa using j1 (smallOk b (hasB n)))))
theorem impl_ActRight_ev (n a b:Int) (key data:ByteArray) (pw:Int) (hk:key.size≤1048576) (hd:data.size≤1048576):Ev (fun k=>Y3.f k n a b key data pw) (actOk n a b key data pw):=by
  unfold Y3.f actOk
  refine evBind1 (within_is n 1 17) ?_
  by_cases hn:isKind n=true
  · have j0:=act_j0 n a b key data pw hn hk hd
    refine evPos hn ?_
    rw [hn,Bool.true_and]
    unfold powOk
    by_cases hp:pw = -1
    · subst hp
      exact evPos rfl (by simpa using j0 true)
    · refine evNeg hp (Ev.bind (powered_ev n) ?_)
      rw [beq_eq_false_iff_ne.2 hp,Bool.false_or]
      cases hasPower n with
      | false=>exact evNeg (by simp) (by simpa using j0 false)
      | true=>exact evPos rfl (evBind1 (isPower_is pw) (by simpa using j0 (isWithin pw (-1) 10000)))
  · have hn':isKind n=false:=by simpa using hn
    refine evNeg hn ?_
    rw [hn',Bool.false_and]
    exact Ev.step (f:=fun _=>some false) (fun k=>by simp [Y3.j0]) (Ev.now _)
theorem nameOk_nil {t:ByteArray} (h:t.toList=[]):nameOk t=false:=by
  have e:t=⟨#[]⟩:=toList_inj (by rw [h,toList_data])
  subst e
  decide
theorem l10Power_is (x:Int):Y37.f x=some (isWithin x (-1) 10000):=by simp [Y37.f,l02Is_is]
theorem spec_j3 (n a b:Int) (key data:ByteArray) (pw:Int) (c:Bool):Ev (fun k=>Y5.j3 k (!c) n a b key data pw) (c && powOk n pw):=by
  cases c with
  | false=>exact Ev.step (f:=fun _=>some false) (fun k=>by simp [Y5.j3]) (Ev.now _)
  | true =>
    refine Ev.step (f:=fun _=>some (powOk n pw)) (fun k=>?_) (by simpa using Ev.now (powOk n pw))
    simp only [Y5.j3,l15Powered_is,l10Power_is,Option.bind_some,powOk]
    rw [if_neg (by simp)]
    by_cases hp:pw = -1
    · simp [hp]
    · rw [if_neg hp,beq_eq_false_iff_ne.2 hp]
      cases hasPower n <;> simp
theorem spec_j2 (n a b:Int) (key data:ByteArray) (pw:Int) (hd:data.size≤1048576) (d:Bool) (c:Bool):Ev (fun k=>Y5.j2 k d (!c) n a b key data pw) (c && (datOk d data && powOk n pw)):=by
  cases c with
  | false=>exact Ev.step (f:=fun _=>some false) (fun k=>by simp [Y5.j2]) (Ev.now _)
  | true =>
    have j3:=spec_j3 n a b key data pw
    have hs:(decide ((data.size:Int)>16))=!decide (data.size≤16):=by
      by_cases h:data.size≤16
      · simp [h];omega
      · simp [h];omega
    refine Ev.step (fun k=>by simp only [Y5.j2];rw [if_neg (by simp)]) (Ev.bind (spec_NameRight_ev data hd) ?_)
    unfold datOk
    cases d with
    | true =>
      cases nameOk data with
      | true=>exact evNeg (by simp) (evPos rfl (by rw [hs];simpa using j3 (decide (data.size≤16))))
      | false=>exact evPos (by simp) (by simpa using j3 false)
    | false =>
      by_cases he:data.toList=[]
      · have h0:=toList_nil he
        rw [nameOk_nil he]
        refine evNeg (by simp) (evNeg (by simp) (evPos he ?_))
        rw [hs]
        simpa [he,h0] using j3 true
      · have hf:(data.toList == ([]:List UInt8))=false:=beq_eq_false_iff_ne.2 he
        cases nameOk data with
        | true=>exact evPos (by simp) (by simp only [hf,Bool.true_and,Bool.false_and,Bool.and_false,Bool.false_or,Bool.or_false,Bool.not_false,Bool.false_eq_true,↓reduceIte];exact j3 false)
        | false=>exact evNeg (by simp) (evNeg (by simp) (evNeg he (by simp only [hf,Bool.true_and,Bool.false_and,Bool.and_false,Bool.false_or,Bool.or_false,Bool.not_false,Bool.false_eq_true,↓reduceIte];exact j3 false)))
theorem spec_j1 (n a b:Int) (key data:ByteArray) (pw:Int) (hk:key.size≤1048576) (hd:data.size≤1048576) (q d:Bool) (c:Bool):Ev (fun k=>Y5.j1 k q d (!c) n a b key data pw) (c && (keyOk q key && (datOk d data && powOk n pw))):=by
  cases c with
  | false=>exact Ev.step (f:=fun _=>some false) (fun k=>by simp [Y5.j1]) (Ev.now _)
  | true =>
    have j2:=spec_j2 n a b key data pw hd d
    refine Ev.step (fun k=>by simp only [Y5.j1];rw [if_neg (by simp)]) (Ev.bind (spec_NameRight_ev key hk) ?_)
    unfold keyOk
    cases q with
    | true =>
      cases nameOk key with
      | true=>exact evNeg (by simp) (evPos rfl (by simpa using j2 true))
      | false=>exact evPos (by simp) (by simpa using j2 false)
    | false =>
      by_cases he:key.toList=[]
      · rw [nameOk_nil he]
        refine evNeg (by simp) (evNeg (by simp) ?_)
        simpa [he] using j2 true
      · have hf:(key.toList == ([]:List UInt8))=false:=beq_eq_false_iff_ne.2 he
        cases nameOk key with
        | true=>exact evPos (by simp) (by simp only [hf,Bool.true_and,Bool.false_and,Bool.and_false,Bool.false_or,Bool.or_false,Bool.not_false,Bool.false_eq_true,↓reduceIte];exact j2 false)
        | false =>
          refine evNeg (by simp) (evNeg (by simp) ?_)
          have:(key.toList != ([]:List UInt8))=!(key.toList == []):=rfl
          rw [this]
          simp only [hf,Bool.true_and,Bool.false_and,Bool.and_false,Bool.false_or,Bool.or_false,Bool.not_false,Bool.false_eq_true,↓reduceIte];exact j2 false
theorem small_split (x:Int) (t:Bool) (h:isWithin x 0 999999=true):smallOk x t=(t || x == 0):=by
  unfold smallOk
  rw [h]
  cases t <;> simp
theorem small_no {x:Int} (t:Bool) (h:isWithin x 0 999999=false):smallOk x t=false:=by
  unfold smallOk
  have:x≠0:=by
    rintro rfl
    simp [isWithin] at h
  rw [h,beq_eq_false_iff_ne.2 this]
  simp
theorem spec_ActRight_ev (n a b:Int) (key data:ByteArray) (pw:Int) (hk:key.size≤1048576) (hd:data.size≤1048576):Ev (fun k=>Y5.f k n a b key data pw) (actOk n a b key data pw):=by
  obtain ⟨w,ew,hw⟩:=l15Word_ev n
  have j1:=spec_j1 n a b key data pw hk hd (hasK n) (hasD n)
  have j0T:Ev (fun k=>Y5.j0 k (hasA n) (hasB n) (hasK n) (hasD n) true n a b key data pw) false:=Ev.step (f:=fun _=>some false) (fun k=>by simp [Y5.j0]) (Ev.now _)
  unfold Y5.f actOk
  refine Ev.bind (l15Has_ev n) (Ev.bind ew ?_)
  cases hn:isKind n with
  | false=>exact evPos (hw.2 hn) (by simpa using j0T)
  | true =>
    refine evNeg (fun e=>by rw [hw.1 e] at hn;simp at hn) (evBind1 (l02Is_is _ _ _) ?_)
    cases ha:isWithin a 0 999999 with
    | false=>exact evNeg (by simp) (by rw [small_no _ ha];simpa using j0T)
    | true =>
      refine evPos rfl (evBind1 (l02Is_is _ _ _) ?_)
      cases hb:isWithin b 0 999999 with
      | false=>rw [small_no (hasB n) hb];simpa using j0T
      | true =>
        rw [small_split a _ ha,small_split b _ hb]
        have key':∀ (p q:Bool),Ev (fun k=>Y5.j0 k p q (hasK n) (hasD n) false n a b key data pw) ((p || a == 0) && ((q || b == 0) && (keyOk (hasK n) key && (datOk (hasD n) data && powOk n pw)))):=by
          intro p q
          refine Ev.step (fun k=>by simp only [Y5.j0];rw [if_neg (by simp)]) ?_
          cases p with
          | true =>
            refine evPos rfl ?_
            cases q with
            | true=>exact evPos rfl (by simpa using j1 true)
            | false =>
              refine evNeg (by simp) ?_
              have:(b != 0)=!(b == 0):=rfl
              rw [this]
              simpa using j1 (b == 0)
          | false =>
            refine evNeg (by simp) ?_
            by_cases h0:a=0
            · refine evPos h0 ?_
              cases q with
              | true=>exact evPos rfl (by simpa [h0] using j1 true)
              | false =>
                refine evNeg (by simp) ?_
                have:(b != 0)=!(b == 0):=rfl
                rw [this]
                simpa [h0] using j1 (b == 0)
            · have hf:(a == 0)=false:=beq_eq_false_iff_ne.2 h0
              exact evNeg h0 (by simp only [hf,Bool.true_and,Bool.false_and,Bool.and_false,Bool.false_or,Bool.or_false,Bool.not_false,Bool.false_eq_true,↓reduceIte];exact j1 false)
        have:=key' (hasA n) (hasB n)
        have e:(true && (powOk n pw && ((hasA n || a == 0) && ((hasB n || b == 0) && (keyOk (hasK n) key && datOk (hasD n) data)))))=((hasA n || a == 0) && ((hasB n || b == 0) && (keyOk (hasK n) key && (datOk (hasD n) data && powOk n pw)))):=by
          cases powOk n pw <;> cases (hasA n || a == 0) <;> cases (hasB n || b == 0) <;> cases keyOk (hasK n) key <;> cases datOk (hasD n) data <;> rfl
        rw [e]
        exact this
end Go.Proofs.YtkaojnmgflaldaaDoor.Q

namespace Go.Proofs.YtkaojnmgflaldaaDoor.Q
open Go.RowKit Go.Proofs.YtkaojnmgflaldaaDoor.P Go.Proofs.YtkaojnmgflaldaaDoorW.PrintWords Go.Proofs.YtkaojnmgflaldaaDoorW.PrintMore

def numText (n:Int):ByteArray:=⟨(Lib.itoa n).toArray⟩
theorem digits_len:∀ (j u:Nat),u<10 ^ (j+1)→(Lib.decDigits u).length≤j+1
  | 0,u,h=>by rw [Lib.decDigits_one (by simpa using h)];simp
  | j+1,u,h=>by
    by_cases hu:u<10
    · rw [Lib.decDigits_one hu];simp
    · rw [Lib.decDigits,dif_neg hu,List.length_append]
      have:=digits_len j (u / 10) (by rw [Nat.pow_succ] at h;omega)
      simp only [List.length_cons,List.length_nil]
      omega
theorem numText_size {n:Int} (h0:0≤n) (h1:n≤9223372036854775807):(numText n).size≤19:=by
  have h:=digits_len 18 n.toNat (by have:(10:Nat) ^ (18+1)=10000000000000000000:=rfl;omega)
  unfold numText Lib.itoa
  rw [if_neg (by omega)]
  show (Lib.decDigits n.toNat).toArray.size≤19
  rw [List.size_toArray]
  exact h
theorem strOne (d:Nat) (hd:d<10):strOfNums ([(48+(d:Int)) % 256]:List Int)=⟨#[UInt8.ofNat (48+d)]⟩:=by
  obtain rfl | rfl | rfl | rfl | rfl | rfl | rfl | rfl | rfl | rfl:d=0∨d=1∨d=2∨d=3∨d=4∨d=5∨d=6∨d=7∨d=8∨d=9:=by omega
  all_goals rfl
theorem dec_l0:∀ (j x:Nat) (t:ByteArray),x<10 ^ j→j≤20→x≤9223372036854775807→t.size+j≤1000 →
    Ev (fun k=>Y15.l0 k (x:Int) false t) (if x=0 then t else (⟨(Lib.decDigits x).toArray⟩:ByteArray) ++ t)
  | 0,x,t,h,_,_,_=>by
    have:x=0:=by simpa using h
    subst this
    exact Ev.step (f:=fun _=>some t) (fun k=>by simp [Y15.l0]) (Ev.now _)
  | j+1,x,t,h,hj,hx,ht=>by
    by_cases h0:x=0
    · subst h0
      exact Ev.step (f:=fun _=>some t) (fun k=>by simp [Y15.l0]) (Ev.now _)
    · rw [if_neg h0]
      have hd:Int.tmod (x:Int) 10=((x % 10:Nat):Int):=by rw [Int.tmod_eq_emod_of_nonneg (by omega)];omega
      have hq:Int.tdiv (x:Int) 10=((x / 10:Nat):Int):=by rw [Int.tdiv_eq_ediv_of_nonneg (by omega)];omega
      have hs:=strOne (x % 10) (by omega)
      have hsz:(strOfNums ([(wrap64 (48+Int.tmod (x:Int) 10)) % 256]:List Int)).size=1:=rfl
      have e:strOfNums ([(wrap64 (48+Int.tmod (x:Int) 10)) % 256]:List Int)=⟨#[UInt8.ofNat (48+x % 10)]⟩:=by rw [hd,w64 (by omega) (by omega)];exact hs
      have ih:=dec_l0 j (x / 10) ((⟨#[UInt8.ofNat (48+x % 10)]⟩:ByteArray) ++ t) (by rw [Nat.pow_succ] at h;omega) (by omega) (by omega) (by rw [ByteArray.size_append];show 1+t.size+j≤1000;omega)
      have er:(if x / 10=0 then (⟨#[UInt8.ofNat (48+x % 10)]⟩:ByteArray) ++ t else (⟨(Lib.decDigits (x / 10)).toArray⟩:ByteArray) ++ ((⟨#[UInt8.ofNat (48+x % 10)]⟩:ByteArray) ++ t))=(⟨(Lib.decDigits x).toArray⟩:ByteArray) ++ t:=by
        by_cases hu:x<10
        · rw [if_pos (by omega),Lib.decDigits_one hu,Nat.mod_eq_of_lt hu]
        · rw [if_neg (by omega),show Lib.decDigits x=Lib.decDigits (x / 10) ++ [UInt8.ofNat (48+x % 10)] from by rw [Lib.decDigits,dif_neg hu],← ByteArray.append_assoc]
          have e3:(⟨(Lib.decDigits (x / 10) ++ [UInt8.ofNat (48+x % 10)]).toArray⟩:ByteArray)=(⟨(Lib.decDigits (x / 10)).toArray⟩:ByteArray) ++ (⟨#[UInt8.ofNat (48+x % 10)]⟩:ByteArray):=by
            apply ByteArray.ext
            rw [ByteArray.data_append]
            simp
          rw [e3]
      rw [er] at ih
      refine Ev.step (fun k=>?_) ih
      simp only [Y15.l0]
      rw [if_neg (by omega),if_neg (by omega),Option.bind_some,if_pos (by rw [hsz];omega),e,hq,w64 (by omega) (by omega)]
theorem l01Dec_ev (n:Int) (h0:0≤n) (h1:n≤9223372036854775807):Ev (fun k=>Y15.f k n) (numText n):=by
  unfold Y15.f
  by_cases hz:n=0
  · subst hz
    exact evPos rfl (by have:numText 0=⟨#[48]⟩:=(by unfold numText Lib.itoa;rw [if_neg (by omega),Lib.decDigits_one (by decide)];rfl);rw [this];exact Ev.now _)
  · refine evNeg hz ?_
    rw [decide_eq_false (by omega)]
    obtain ⟨x,rfl⟩:=Int.eq_ofNat_of_zero_le h0
    have h:=dec_l0 19 x ⟨#[]⟩ (by have:(10:Nat) ^ 19=10000000000000000000:=rfl;omega) (by omega) (by omega) (by decide)
    rw [if_neg (by omega)] at h
    have e:(⟨(Lib.decDigits x).toArray⟩:ByteArray) ++ (⟨#[]⟩:ByteArray)=numText (x:Int):=by
      unfold numText Lib.itoa
      rw [if_neg (by omega),Int.toNat_natCast]
      apply ByteArray.ext
      rw [ByteArray.data_append]
      simp
    rw [e] at h
    exact h
end Go.Proofs.YtkaojnmgflaldaaDoor.Q

namespace Go.Proofs.YtkaojnmgflaldaaDoor.Q
open Go.RowKit Go.Proofs.YtkaojnmgflaldaaDoor.P Go.Proofs.YtkaojnmgflaldaaDoorW.PrintWords Go.Proofs.YtkaojnmgflaldaaDoorW.PrintMore

theorem decimal_is (n:Int) (h0 : -9223372036854775808≤n) (h1:n≤9223372036854775807):Y27.f n=some (numText n):=by
  unfold Y27.f numText
  rw [if_pos ⟨h0,h1⟩]
/-- The word of a kind. -/
def wordOf (n:Int):ByteArray:=match Y20.f with
  | some l=>(rd_T50 l (n-1)).f0
  | none=>⟨#[]⟩
theorem words_is:∃ l,Y20.f=some l∧l.length=17∧(∀ n,formOf n=(rd_T50 l (n-1)).f1)∧∀ n,wordOf n=(rd_T50 l (n-1)).f0:=⟨_,rfl,rfl,fun _=>rfl,fun _=>rfl⟩
def opt (b:Bool) (c:UInt8):List UInt8:=if b=true then [c] else []
theorem form_is (n:Int) (h:isKind n=true):(formOf n).data.toList=opt (hasA n) 65 ++ (opt (hasB n) 66 ++ (opt (hasK n) 75 ++ opt (hasD n) 68)):=by
  obtain rfl | rfl | rfl | rfl | rfl | rfl | rfl | rfl | rfl | rfl | rfl | rfl | rfl | rfl | rfl | rfl | rfl:=kinds n h
  all_goals decide
theorem word_size (n:Int) (h:isKind n=true):(wordOf n).size≤10:=by
  obtain rfl | rfl | rfl | rfl | rfl | rfl | rfl | rfl | rfl | rfl | rfl | rfl | rfl | rfl | rfl | rfl | rfl:=kinds n h
  all_goals decide
theorem l15Word_is (n:Int) (h:isKind n=true):Ev (fun k=>Y9.f k n) (wordOf n):=by
  unfold Y9.f
  have hk:1≤n∧n≤17:=by simpa only [isKind,isWithin,Bool.and_eq_true,decide_eq_true_eq] using h
  have jF:∀ y:List ByteArray,¬ n≥(y.length:Int)→¬ n<1→Ev (fun k=>Y9.j0 k n y (decide (n≥(y.length:Int)))) (rdOf ByteArray.empty y n):=fun y h h0=>by
    rw [decide_eq_false h]
    refine Ev.step (f:=fun _=>some (rdOf ByteArray.empty y n)) (fun k=>?_) (Ev.now _)
    simp only [Y9.j0]
    rw [if_neg (by simp),if_pos (by omega),if_pos (by omega)]
  refine evBind1 rfl (evNeg (by omega) ?_)
  have e:=jF _ (show ¬ n≥((([(⟨#[]⟩:ByteArray),(⟨#[112,117,116]⟩:ByteArray),(⟨#[111,118,101,114]⟩:ByteArray),(⟨#[100,101,108]⟩:ByteArray),(⟨#[103,101,116]⟩:ByteArray),(⟨#[100,101,108,105,118,101,114]⟩:ByteArray),(⟨#[108,111,115,101]⟩:ByteArray),(⟨#[116,119,105,99,101]⟩:ByteArray),(⟨#[116,105,99,107]⟩:ByteArray),(⟨#[99,114,97,115,104]⟩:ByteArray),(⟨#[115,116,97,114,116]⟩:ByteArray),(⟨#[115,117,115,112,101,99,116]⟩:ByteArray),(⟨#[116,114,117,115,116]⟩:ByteArray),(⟨#[104,97,110,100]⟩:ByteArray),(⟨#[112,97,99,107]⟩:ByteArray),(⟨#[115,101,116,116,108,101]⟩:ByteArray),(⟨#[115,112,114,101,97,100]⟩:ByteArray),(⟨#[101,120,99,104,97,110,103,101]⟩:ByteArray)]:List ByteArray)).length:Int) by simp;omega) (by omega)
  have e2:rdOf ByteArray.empty ([(⟨#[]⟩:ByteArray),(⟨#[112,117,116]⟩:ByteArray),(⟨#[111,118,101,114]⟩:ByteArray),(⟨#[100,101,108]⟩:ByteArray),(⟨#[103,101,116]⟩:ByteArray),(⟨#[100,101,108,105,118,101,114]⟩:ByteArray),(⟨#[108,111,115,101]⟩:ByteArray),(⟨#[116,119,105,99,101]⟩:ByteArray),(⟨#[116,105,99,107]⟩:ByteArray),(⟨#[99,114,97,115,104]⟩:ByteArray),(⟨#[115,116,97,114,116]⟩:ByteArray),(⟨#[115,117,115,112,101,99,116]⟩:ByteArray),(⟨#[116,114,117,115,116]⟩:ByteArray),(⟨#[104,97,110,100]⟩:ByteArray),(⟨#[112,97,99,107]⟩:ByteArray),(⟨#[115,101,116,116,108,101]⟩:ByteArray),(⟨#[115,112,114,101,97,100]⟩:ByteArray),(⟨#[101,120,99,104,97,110,103,101]⟩:ByteArray)]:List ByteArray) n=wordOf n:=by
    obtain rfl | rfl | rfl | rfl | rfl | rfl | rfl | rfl | rfl | rfl | rfl | rfl | rfl | rfl | rfl | rfl | rfl:=kinds n h
    all_goals rfl
  rw [e2] at e
  exact e
/-- A field behind a blank, if it is there. -/
def put (b:Bool) (o d:ByteArray):ByteArray:=if b=true then (o ++ (⟨#[32]⟩:ByteArray)) ++ d else o
def headOf (n pw:Int):ByteArray:=if pw = -1 then wordOf n else (((⟨#[33]⟩:ByteArray) ++ numText pw) ++ (⟨#[32]⟩:ByteArray)) ++ wordOf n
def actText (n a b:Int) (key data:ByteArray) (pw:Int):ByteArray:=put (hasD n) (put (hasK n) (put (hasB n) (put (hasA n) (headOf n pw) (numText a)) (numText b)) key) data
theorem put_size (b:Bool) (o d:ByteArray):(put b o d).size≤o.size+1+d.size:=by
  unfold put
  split
  · rw [ByteArray.size_append,ByteArray.size_append];exact Nat.le_refl _
  · omega
theorem head_size (n pw:Int) (h:isKind n=true) (h0 : -1≤pw) (h1:pw≤10000):(headOf n pw).size≤40:=by
  unfold headOf
  have:=word_size n h
  split
  · omega
  · rename_i hp
    have:=numText_size (n:=pw) (by omega) (by omega)
    rw [ByteArray.size_append,ByteArray.size_append,ByteArray.size_append]
    show 1+_+1+_≤40
    omega
theorem g_opt (a b:Int) (key data:ByteArray) (c:UInt8) (d:ByteArray) (hc:(if c=65 then Y27.f a else if c=66 then Y27.f b else if c=75 then some key else some data)=some d) (t:Bool) (rest:List UInt8) (o:ByteArray) (h:o.size+1+d.size≤9223372036854775807) :
    Y18.g a b key data (opt t c ++ rest) o=Y18.g a b key data rest (put t o d):=by
  cases t with
  | false=>rfl
  | true =>
    show Y18.g a b key data (c :: rest) o=_
    simp only [Y18.g,hc,Option.bind_some]
    rw [if_pos (by omega),if_pos (by omega)]
    simp only [put,if_true,ByteArray.append_assoc]
theorem actText_is (n a b:Int) (key data:ByteArray) (pw:Int) (hk:isKind n=true) (ha:0≤a∧a≤999999) (hb:0≤b∧b≤999999) (hp : -1≤pw∧pw≤10000) (hs:key.size≤1048576) (hd:data.size≤1048576) :
    Y18.f n a b key data pw=some (actText n a b key data pw):=by
  have hk':1≤n∧n≤17:=by simpa only [isKind,isWithin,Bool.and_eq_true,decide_eq_true_eq] using hk
  obtain ⟨l,hl,hl17,hf,hw⟩:=words_is
  have hall:∀ b ∈ (formOf n).data.toList,b.toNat<128:=by
    obtain rfl | rfl | rfl | rfl | rfl | rfl | rfl | rfl | rfl | rfl | rfl | rfl | rfl | rfl | rfl | rfl | rfl:=kinds n hk
    all_goals decide
  have hhs:=head_size n pw hk hp.1 hp.2
  have sa:=numText_size (n:=a) ha.1 (by omega)
  have sb:=numText_size (n:=b) hb.1 (by omega)
  have s1:=put_size (hasA n) (headOf n pw) (numText a)
  have s2:=put_size (hasB n) (put (hasA n) (headOf n pw) (numText a)) (numText b)
  have s3:=put_size (hasK n) (put (hasB n) (put (hasA n) (headOf n pw) (numText a)) (numText b)) key
  unfold Y18.f
  rw [hl,Option.bind_some,w64 (by omega) (by omega),if_pos (by omega),if_pos (by rw [hl17];omega),← hf,← hw,if_pos hall]
  have hS:Y18.s pw (wordOf n)=some (headOf n pw):=by
    unfold Y18.s headOf
    by_cases h1:pw = -1
    · rw [if_pos h1,if_pos h1]
    · have sp:=numText_size (n:=pw) (by omega) (by omega)
      have sw:=word_size n hk
      rw [if_neg h1,if_neg h1,decimal_is pw (by omega) (by omega),Option.bind_some,if_pos (by omega),if_pos (by omega),if_pos (by omega)]
  rw [hS,Option.bind_some,form_is n hk,g_opt a b key data 65 (numText a) (by rw [if_pos rfl];exact decimal_is a (by omega) (by omega)) _ _ _ (by omega),g_opt a b key data 66 (numText b) (by rw [if_neg (by decide),if_pos rfl];exact decimal_is b (by omega) (by omega)) _ _ _ (by omega),
    g_opt a b key data 75 key (by rw [if_neg (by decide),if_neg (by decide),if_pos rfl]) _ _ _ (by omega)]
  have h4:=g_opt a b key data 68 data (by rw [if_neg (by decide),if_neg (by decide),if_neg (by decide)]) (hasD n) [] (put (hasK n) (put (hasB n) (put (hasA n) (headOf n pw) (numText a)) (numText b)) key) (by omega)
  rw [List.append_nil] at h4
  rw [h4]
  rfl
theorem at_j3 (n a b:Int) (key data:ByteArray) (pw:Int) (d:Bool) (o:ByteArray) (h:o.size+1+data.size≤9223372036854775807) :
    Ev (fun k=>Y8.j3 k d o n a b key data pw) (put d o data):=by
  cases d with
  | false=>exact Ev.step (f:=fun _=>some o) (fun k=>by simp [Y8.j3]) (Ev.now _)
  | true =>
    refine Ev.step (f:=fun _=>some ((o ++ (⟨#[32]⟩:ByteArray)) ++ data)) (fun k=>?_) (Ev.now _)
    simp only [Y8.j3]
    rw [if_pos trivial,if_pos (by omega),if_pos (by omega)]
theorem at_j2 (n a b:Int) (key data:ByteArray) (pw:Int) (c d:Bool) (o:ByteArray) (h:o.size+2+key.size+data.size≤9223372036854775807) :
    Ev (fun k=>Y8.j2 k c d o n a b key data pw) (put d (put c o key) data):=by
  have hs:=put_size c o key
  have h3:=at_j3 n a b key data pw d (put c o key) (by omega)
  cases c with
  | false=>exact Ev.step (fun k=>by simp only [Y8.j2];rw [if_neg (by simp)];rfl) h3
  | true =>
    refine Ev.step (fun k=>?_) h3
    simp only [Y8.j2]
    rw [if_pos trivial,if_pos (by omega),if_pos (by omega)]
    rfl
theorem at_j1 (n a b:Int) (key data:ByteArray) (pw:Int) (hb:0≤b∧b≤999999) (e c d:Bool) (o:ByteArray) (h:o.size+22+key.size+data.size≤9223372036854775807) :
    Ev (fun k=>Y8.j1 k e c d o n a b key data pw) (put d (put c (put e o (numText b)) key) data):=by
  have hs:=put_size e o (numText b)
  have sb:=numText_size (n:=b) hb.1 (by omega)
  have h3:=at_j2 n a b key data pw c d (put e o (numText b)) (by omega)
  cases e with
  | false=>exact Ev.step (fun k=>by simp only [Y8.j1];rw [if_neg (by simp)];rfl) h3
  | true =>
    refine Ev.step (fun k=>by simp only [Y8.j1];rw [if_pos trivial,if_pos (by omega)]) ?_
    refine Ev.bind (l01Dec_ev b hb.1 (by omega)) ?_
    exact evPos (by omega) h3
theorem at_j0 (n a b:Int) (key data:ByteArray) (pw:Int) (ha:0≤a∧a≤999999) (hb:0≤b∧b≤999999) (x e c d:Bool) (o:ByteArray) (h:o.size+42+key.size+data.size≤9223372036854775807) :
    Ev (fun k=>Y8.j0 k x e c d o n a b key data pw) (put d (put c (put e (put x o (numText a)) (numText b)) key) data):=by
  have hs:=put_size x o (numText a)
  have sb:=numText_size (n:=a) ha.1 (by omega)
  have h3:=at_j1 n a b key data pw hb e c d (put x o (numText a)) (by omega)
  cases x with
  | false=>exact Ev.step (fun k=>by simp only [Y8.j0];rw [if_neg (by simp)];rfl) h3
  | true =>
    refine Ev.step (fun k=>by simp only [Y8.j0];rw [if_pos trivial,if_pos (by omega)]) ?_
    refine Ev.bind (l01Dec_ev a ha.1 (by omega)) ?_
    exact evPos (by omega) h3
theorem act_parts {n a b:Int} {key data:ByteArray} {pw:Int} (h:actOk n a b key data pw=true):isKind n=true∧(0≤a∧a≤999999)∧(0≤b∧b≤999999)∧(-1≤pw∧pw≤10000):=by
  simp only [actOk,powOk,smallOk,isWithin,Bool.and_eq_true,Bool.or_eq_true,beq_iff_eq,decide_eq_true_eq] at h
  obtain ⟨h1,h2,h3,h4,_⟩:=h
  refine ⟨h1,?_,?_,?_⟩
  · rcases h3 with h | ⟨_,h⟩ <;> omega
  · rcases h4 with h | ⟨_,h⟩ <;> omega
  · rcases h2 with h | ⟨_,h⟩ <;> omega
theorem spec_ActText_ev (n a b:Int) (key data:ByteArray) (pw:Int) (hk:key.size≤1048576) (hd:data.size≤1048576) :
    Ev (fun k=>Y8.f k n a b key data pw) (if actOk n a b key data pw=true then actText n a b key data pw else ⟨#[]⟩):=by
  unfold Y8.f
  refine Ev.bind (spec_ActRight_ev n a b key data pw hk hd) ?_
  by_cases h:actOk n a b key data pw=true
  · obtain ⟨h1,h2,h3,h4⟩:=act_parts h
    have hhs:=head_size n pw h1 h4.1 h4.2
    have hj:=at_j0 n a b key data pw h2 h3 (hasA n) (hasB n) (hasK n) (hasD n) (headOf n pw) (by omega)
    rw [show (if actOk n a b key data pw=true then actText n a b key data pw else ⟨#[]⟩)=actText n a b key data pw from if_pos h]
    refine evPos h (Ev.bind (l15Has_ev n) (Ev.bind (l15Word_is n h1) ?_))
    by_cases hp:pw = -1
    · refine evPos hp ?_
      rw [show headOf n pw=wordOf n from if_pos hp] at hj
      unfold actText
      rw [show headOf n pw=wordOf n from if_pos hp]
      exact hj
    · have sp:=numText_size (n:=pw) (by omega) (by omega)
      have sw:=word_size n h1
      refine evNeg hp (Ev.bind (l01Dec_ev pw (by omega) (by omega)) (evPos (by omega) (evPos (by omega) (evPos (by omega) ?_))))
      unfold actText
      rw [show headOf n pw=_ from if_neg hp] at hj ⊢
      exact hj
  · rw [show (if actOk n a b key data pw=true then actText n a b key data pw else (⟨#[]⟩:ByteArray))=⟨#[]⟩ from if_neg h]
    exact evNeg h (Ev.now _)
end Go.Proofs.YtkaojnmgflaldaaDoor.Q

namespace Go.Proofs.YtkaojnmgflaldaaDoor.Q
open Go.RowKit Go.Proofs.YtkaojnmgflaldaaDoor.P Go.Proofs.YtkaojnmgflaldaaDoorW.PrintWords Go.Proofs.YtkaojnmgflaldaaDoorW.PrintMore

def noSp (l:List UInt8):Prop:=∀ c ∈ l,c≠32
theorem noSp_nil:noSp (⟨#[]⟩:ByteArray).data.toList:=by
  intro c h
  simp at h
/-- The words, a blank ahead of each but the first. -/
def glue (w:ByteArray) (ws:List ByteArray):List UInt8:=w.data.toList ++ (ws.map fun x=>(32:UInt8) :: x.data.toList).flatten
theorem glue_nil (w:ByteArray):glue w []=w.data.toList:=by simp [glue]
theorem glue_cons (w x:ByteArray) (ws:List ByteArray):glue w (x :: ws)=w.data.toList ++ 32 :: glue x ws:=by simp [glue]
theorem words_of:∀ l:List UInt8,∃ w ws,l=glue w ws∧noSp w.data.toList∧∀ x ∈ ws,noSp x.data.toList
  | []=>⟨⟨#[]⟩,[],rfl,noSp_nil,by intro _ h;cases h⟩
  | c :: r=>by
    obtain ⟨w,ws,h,h1,h2⟩:=words_of r
    by_cases hc:c=32
    · subst hc
      refine ⟨⟨#[]⟩,w :: ws,?_,noSp_nil,?_⟩
      · rw [glue_cons,← h];rfl
      · intro x hx
        rcases List.mem_cons.1 hx with rfl | hx
        · exact h1
        · exact h2 x hx
    · refine ⟨⟨(c :: w.data.toList).toArray⟩,ws,?_,?_,h2⟩
      · unfold glue at h ⊢
        rw [h];simp
      · intro d hd
        have hd':d ∈ c :: w.data.toList:=by simpa using hd
        rcases List.mem_cons.1 hd' with rfl | hd'
        · exact hc
        · exact h1 d hd'
theorem ba_ext {a b:ByteArray} (h:a.data.toList=b.data.toList):a=b:=ByteArray.ext (Array.toList_inj.1 h)
theorem ba_len (a:ByteArray):a.data.toList.length=a.size:=rfl
theorem indexByte_app (r:List UInt8):∀ w:List UInt8,noSp w→Lib.indexByte (w ++ 32 :: r) 32=(w.length:Int)
  | [],_=>by simp [Lib.indexByte]
  | b :: w,h=>by
    have ih:=indexByte_app r w (fun c hc=>h c (List.mem_cons_of_mem _ hc))
    have hb:b≠32:=h b (List.mem_cons_self ..)
    rw [List.cons_append,Lib.indexByte,ih,if_neg (by simpa using hb),if_neg (by first | (simp;done) | (simp;omega))]
    simp
theorem indexByte_no:∀ w:List UInt8,noSp w→Lib.indexByte w 32 = -1
  | [],_=>rfl
  | b :: w,h=>by
    have ih:=indexByte_no w (fun c hc=>h c (List.mem_cons_of_mem _ hc))
    have hb:b≠32:=h b (List.mem_cons_self ..)
    rw [Lib.indexByte,ih,if_neg (by simpa using hb)]
    rfl
theorem splitB_is:∀ (ws:List ByteArray) (w s:ByteArray),s.data.toList=glue w ws→noSp w.data.toList→(∀ x ∈ ws,noSp x.data.toList)→Lib.splitB (⟨#[32]⟩:ByteArray) 0 (Lib.countB s (⟨#[32]⟩:ByteArray)) s=w :: ws
  | [],w,s,h,h1,_=>by
    rw [glue_nil] at h
    have hi:Lib.indexB s (⟨#[32]⟩:ByteArray) = -1:=by
      show Lib.index s.data.toList [32] = -1
      rw [Lib.index_one,h]
      exact indexByte_no _ h1
    rw [Lib.countB_miss _ _ hi,Lib.splitB_zero,ba_ext h]
  | x :: ws,w,s,h,h1,h2=>by
    rw [glue_cons] at h
    have hi:Lib.indexB s (⟨#[32]⟩:ByteArray)=((w.size:Nat):Int):=by
      show Lib.index s.data.toList [32]=_
      rw [Lib.index_one,h]
      exact indexByte_app _ _ h1
    have e1:s.extract 0 (w.size+0)=w:=by
      apply ba_ext
      rw [Lib.extract_data,h,List.drop_zero,Nat.sub_zero,Nat.add_zero,← ba_len w,List.take_left']
      rfl
    have e2:(s.extract (w.size+(⟨#[32]⟩:ByteArray).size) s.size).data.toList=glue x ws:=by
      rw [Lib.extract_to_end,h,show w.size+(⟨#[32]⟩:ByteArray).size=w.data.toList.length+1 from rfl,List.drop_append]
      simp
    rw [Lib.countB_hit s _ _ (by decide) hi,Nat.add_comm 1,Lib.splitB_hit _ _ _ _ _ hi,e1,splitB_is ws x _ e2 (h2 x (List.mem_cons_self ..)) (fun y hy=>h2 y (List.mem_cons_of_mem _ hy))]
theorem split_is (s w:ByteArray) (ws:List ByteArray) (h:s.data.toList=glue w ws) (h1:noSp w.data.toList) (h2:∀ x ∈ ws,noSp x.data.toList) (hs:s.size≤1048576):Y38.f s (⟨#[32]⟩:ByteArray)=some (w :: ws):=by
  unfold Y38.f
  rw [if_pos ⟨by omega,by decide⟩,splitB_is ws w s h h1 h2]
theorem bt_list {s:ByteArray} {i:Nat} {c:UInt8} (h:s.data.toList[i]? = some c):bt s (i:Int)=(c.toNat:Int):=by
  obtain ⟨hi,he⟩:=List.getElem?_eq_some_iff.1 h
  have hi':i<s.size:=hi
  unfold bt
  rw [dif_pos (by simpa using hi')]
  subst he
  rfl
theorem glue_len (w:ByteArray) (ws:List ByteArray):(glue w ws).length=w.size+((ws.map fun x=>(32:UInt8) :: x.data.toList).flatten).length:=by
  unfold glue
  rw [List.length_append,ba_len]
theorem l01_l0 (s:ByteArray) (hs:s.size≤1048576):∀ (ws:List ByteArray) (w:ByteArray) (m i a:Nat) (acc:List ByteArray),s.data.toList.drop a=glue w ws→noSp w.data.toList→(∀ x ∈ ws,noSp x.data.toList)→a≤i→i+m=a+w.size→acc.length≤a→a≤s.size →
    Ev (fun k=>Y13.l0 k s 32 acc (a:Int) (i:Int)) (acc ++ w :: ws)
  | ws,w,m+1,i,a,acc,h,h1,h2,hai,him,hacc,has=>by
    have hj:i-a<w.data.toList.length:=by rw [ba_len];omega
    have hc:s.data.toList[i]? = some (w.data.toList[i-a]):=by
      have:(s.data.toList.drop a)[i-a]? = some (w.data.toList[i-a]):=by
        rw [h]
        unfold glue
        rw [List.getElem?_append_left hj]
        exact List.getElem?_eq_getElem hj
      rwa [List.getElem?_drop,show a+(i-a)=i by omega] at this
    have hne:(w.data.toList[i-a])≠32:=h1 _ (List.getElem_mem hj)
    have hb:=bt_list hc
    have hin:i<s.size:=(List.getElem?_eq_some_iff.1 hc).1
    refine Ev.step (fun k=>?_) (l01_l0 s hs ws w m (i+1) a acc h h1 h2 (by omega) (by omega) hacc has)
    simp only [Y13.l0]
    rw [if_pos (by omega),if_pos (by omega),hb,if_neg (fun e=>hne (UInt8.toNat_inj.1 (by show _=32;omega))),w64 (by omega) (by omega)]
    rfl
  | [],w,0,i,a,acc,h,h1,h2,hai,him,hacc,has=>by
    rw [glue_nil] at h
    have hl:s.size-a=w.size:=by have:=congrArg List.length h;rw [List.length_drop] at this;exact this
    have e:s.extract a s.size=w:=ba_ext (by rw [Lib.extract_to_end,h])
    refine Ev.step (f:=fun _=>some (acc ++ [w])) (fun k=>?_) (Ev.now _)
    simp only [Y13.l0]
    rw [if_neg (by omega),if_pos (by omega),if_pos (by omega),if_pos (by omega),Int.toNat_natCast,e]
  | x :: ws,w,0,i,a,acc,h,h1,h2,hai,him,hacc,has=>by
    rw [glue_cons] at h
    obtain rfl:i=a+w.size:=by omega
    have hc:s.data.toList[a+w.size]? = some 32:=by
      have:(s.data.toList.drop a)[w.size]? = some 32:=by
        rw [h,List.getElem?_append_right (by rw [ba_len];omega),ba_len,Nat.sub_self]
        rfl
      rwa [List.getElem?_drop] at this
    have hb:=bt_list hc
    have hin:a+w.size<s.size:=(List.getElem?_eq_some_iff.1 hc).1
    have e:s.extract a (a+w.size)=w:=by
      apply ba_ext
      rw [Lib.extract_data,h,Nat.add_sub_cancel_left,← ba_len w,List.take_left']
      rfl
    have hd:s.data.toList.drop (a+w.size+1)=glue x ws:=by
      rw [Nat.add_assoc,← List.drop_drop,h,← ba_len w,List.drop_append]
      simp
    have ih:=l01_l0 s hs ws x x.size (a+w.size+1) (a+w.size+1) (acc ++ [w]) hd (h2 x (List.mem_cons_self ..)) (fun y hy=>h2 y (List.mem_cons_of_mem _ hy)) (Nat.le_refl _) rfl (by rw [List.length_append];simp;omega) (by omega)
    rw [List.append_assoc] at ih
    refine Ev.step (fun k=>?_) ih
    simp only [Y13.l0]
    rw [if_pos (by omega),if_pos (by omega),hb,if_pos (by decide),if_pos (by omega),if_pos (by omega),if_pos (by omega),if_pos (by omega),w64 (by omega) (by omega),Int.toNat_natCast,Int.toNat_natCast,e]
    rfl
termination_by ws _ m=>(ws.length,m)
theorem l01Split_ev (s w:ByteArray) (ws:List ByteArray) (h:s.data.toList=glue w ws) (h1:noSp w.data.toList) (h2:∀ x ∈ ws,noSp x.data.toList) (hs:s.size≤1048576):Ev (fun k=>Y13.f k s 32) (w :: ws):=by
  unfold Y13.f
  have:=l01_l0 s hs ws w w.size 0 0 [] h h1 h2 (Nat.le_refl _) rfl (Nat.zero_le _) (Nat.zero_le _)
  exact this
end Go.Proofs.YtkaojnmgflaldaaDoor.Q

namespace Go.Proofs.YtkaojnmgflaldaaDoor.Q
open Go.RowKit Go.Proofs.YtkaojnmgflaldaaDoor.P Go.Proofs.YtkaojnmgflaldaaDoorW.PrintWords Go.Proofs.YtkaojnmgflaldaaDoorW.PrintMore

def isDig (c:UInt8):Prop:=48≤c.toNat∧c.toNat≤57
instance (c:UInt8):Decidable (isDig c):=by unfold isDig;exact inferInstance
def valD (acc:Nat):List UInt8→Nat
  | []=>acc
  | c :: r=>valD (acc*10+(c.toNat-48)) r
theorem valD_app (c:UInt8):∀ (l:List UInt8) (acc:Nat),valD acc (l ++ [c])=valD acc l*10+(c.toNat-48)
  | [],_=>rfl
  | x :: l,acc=>valD_app c l (acc*10+(x.toNat-48))
theorem dig_nat {d:Nat} (h:d<10):(UInt8.ofNat (48+d)).toNat=48+d:=by rw [UInt8.toNat_ofNat_of_lt' (by show 48+d<256;omega)]
theorem dig_is {d:Nat} (h:d<10):isDig (UInt8.ofNat (48+d)):=by unfold isDig;rw [dig_nat h];omega
def DigOk (u:Nat) (l:List UInt8):Prop:=valD 0 l=u∧(∀ c ∈ l,isDig c)∧(1≤u→∀ c,l.head? = some c→c.toNat≠48)∧l≠[]
theorem digOk_one {u:Nat} (hu:u<10):DigOk u (Lib.decDigits u):=by
  rw [Lib.decDigits_one hu]
  refine ⟨?_,?_,?_,by simp⟩
  · show 0*10+((UInt8.ofNat (48+u)).toNat-48)=u
    rw [dig_nat hu]
    omega
  · intro c hc
    rw [List.mem_singleton.1 hc]
    exact dig_is hu
  · intro h1 c hc
    simp only [List.head?_cons,Option.some.injEq] at hc
    rw [← hc,dig_nat hu]
    omega
theorem digOk_more {u:Nat} (hu:¬ u<10) (h:DigOk (u / 10) (Lib.decDigits (u / 10))):DigOk u (Lib.decDigits u):=by
  have hr:u % 10<10:=Nat.mod_lt _ (by omega)
  obtain ⟨h1,h2,h3,h4⟩:=h
  rw [show Lib.decDigits u=Lib.decDigits (u / 10) ++ [UInt8.ofNat (48+u % 10)] from by rw [Lib.decDigits,dif_neg hu]]
  refine ⟨?_,?_,?_,by simp⟩
  · rw [valD_app,h1,dig_nat hr]
    omega
  · intro c hc
    rcases List.mem_append.1 hc with hc | hc
    · exact h2 c hc
    · rw [List.mem_singleton.1 hc]
      exact dig_is hr
  · intro _ c hc
    refine h3 (by omega) c ?_
    cases hd:Lib.decDigits (u / 10) with
    | nil=>exact absurd hd h4
    | cons x r=>rw [hd] at hc;simpa using hc
theorem digits_val (u:Nat):DigOk u (Lib.decDigits u):=by
  induction u using Nat.strongRecOn with
  | _ u ih =>
    by_cases hu:u<10
    · exact digOk_one hu
    · exact digOk_more hu (ih (u / 10) (by omega))
theorem parseM_is (M B:Nat) (hB:B=10000000000) (hM:10*B≤M) (l:List UInt8):∀ (acc k:Nat),(∀ c ∈ l,isDig c)→acc<10 ^ k→l.length+k≤10→Lib.parseUintM M acc l = .ok (valD acc l):=by
  induction l with
  | nil=>intro acc k _ _ _;rfl
  | cons c r ih =>
    intro acc k h ha hk
    have hc:=h c (List.mem_cons_self ..)
    unfold isDig at hc
    have hk':k+1≤10:=by simp only [List.length_cons] at hk;omega
    have hp:10 ^ (k+1)≤B:=by rw [hB];exact Nat.le_trans (Nat.pow_le_pow_right (by omega) hk') (by decide)
    rw [Nat.pow_succ] at hp
    have h2:=ih (acc*10+(c.toNat-48)) (k+1) (fun d hd=>h d (List.mem_cons_of_mem _ hd)) (by rw [Nat.pow_succ];omega) (by simp only [List.length_cons] at hk;omega)
    unfold Lib.parseUintM
    rw [if_pos hc,if_neg (by omega),if_neg (by omega)]
    exact h2
theorem numText_data {n:Int} (h0:0≤n):(numText n).data.toList=Lib.decDigits n.toNat:=by
  unfold numText Lib.itoa
  rw [if_neg (by omega)]
theorem numText_len {n:Int} (h0:0≤n) (h1:n≤999999999):(numText n).size≤9∧1≤(numText n).size:=by
  have e:=numText_data h0
  have hl:=digits_len 8 n.toNat (by have:(10:Nat) ^ (8+1)=1000000000:=rfl;omega)
  obtain ⟨_,_,_,h4⟩:=digits_val n.toNat
  rw [← ba_len,e]
  refine ⟨hl,?_⟩
  cases hd:Lib.decDigits n.toNat with
  | nil=>exact absurd hd h4
  | cons x r=>simp
theorem pInt_is {n:Int} (h0:0≤n) (h1:n≤999999999):pInt_ (numText n)=(n,true):=by
  have hn:n.toNat<10 ^ (8+1):=by have:(10:Nat) ^ (8+1)=1000000000:=rfl;omega
  obtain ⟨hv,hd,_,h4⟩:=digits_val n.toNat
  have hl:=digits_len 8 n.toNat hn
  have hp:=parseM_is (2 ^ 64-1) 10000000000 rfl (by decide) _ 0 0 hd (by simp) (by omega)
  rw [hv] at hp
  unfold pInt_
  rw [numText_data h0]
  have hb:Lib.parseIntB 64 (Lib.decDigits n.toNat) = .ok n:=by
    cases hc:Lib.decDigits n.toNat with
    | nil=>exact absurd hc h4
    | cons c r =>
      rw [hc] at hp hd
      have hcd:=hd c (List.mem_cons_self ..)
      unfold isDig at hcd
      rw [Lib.parseIntB_plain 64 c r (by omega) (by omega)]
      unfold Lib.parseUintB
      rw [if_neg (by simp),hp]
      simp only [Lib.signlessC]
      have e63:(2:Nat) ^ (64-1)=9223372036854775808:=by decide
      rw [if_neg (by omega),Int.toNat_of_nonneg h0]
  rw [hb]
theorem readNumber_is (s:ByteArray) (h:s.size≤1048576):∃ b,Y23.f s=some ((pInt_ s).1,b):=by
  unfold Y23.f
  rw [if_pos (by omega)]
  exact ⟨_,rfl⟩
/-! ### The reference's reader -/
def numF (acc:Nat):List UInt8→Int
  | []=>acc
  | c :: r=>if isDig c then numF (acc*10+(c.toNat-48)) r else -1
theorem numF_val (l:List UInt8):∀ (acc:Nat),(∀ c ∈ l,isDig c)→numF acc l=(valD acc l:Int):=by
  induction l with
  | nil=>intro acc _;rfl
  | cons c r ih =>
    intro acc h
    have h2:=ih (acc*10+(c.toNat-48)) (fun d hd=>h d (List.mem_cons_of_mem _ hd))
    unfold numF
    rw [if_pos (h c (List.mem_cons_self ..)),h2]
    rfl
def numOf (s:ByteArray):Int:=if s.size<1∨9<s.size∨(1<s.size∧bt s 0=48) then -1 else numF 0 s.data.toList
theorem num_l0 (s:ByteArray) (hs:s.size≤9) (r:List UInt8):∀ (i acc:Nat),s.data.toList.drop i=r→i≤s.size→acc<10 ^ i→Ev (fun k=>Y10.l0 k s (acc:Int) (i:Int)) (numF acc r):=by
  induction r with
  | nil =>
    intro i acc h hi _
    have hl:s.size≤i:=by have:=congrArg List.length h;rw [List.length_drop,ba_len] at this;simp at this;omega
    refine Ev.step (f:=fun _=>some (acc:Int)) (fun k=>?_) (Ev.now _)
    simp only [Y10.l0]
    rw [if_neg (by omega)]
  | cons c r ih =>
    intro i acc h hi ha
    have hil:i<s.size:=by have:=congrArg List.length h;rw [List.length_drop,ba_len] at this;simp at this;omega
    have hc:s.data.toList[i]? = some c:=by
      have:(s.data.toList.drop i)[0]? = some c:=by rw [h];rfl
      rwa [List.getElem?_drop,Nat.add_zero] at this
    have hd:s.data.toList.drop (i+1)=r:=by rw [← List.drop_drop,h];rfl
    have hb:=bt_list hc
    have hp:10 ^ i≤10 ^ 9:=Nat.pow_le_pow_right (by omega) (by omega)
    have e9:(10:Nat) ^ 9=1000000000:=rfl
    have hcl:=UInt8.toNat_lt c
    simp only [numF]
    by_cases hg:isDig c
    · rw [if_pos hg]
      have ih:=ih (i+1) (acc*10+(c.toNat-48)) hd (by omega) (by unfold isDig at hg;rw [Nat.pow_succ];omega)
      unfold isDig at hg
      refine Ev.step (f:=fun k=>Y10.j2 k s (acc:Int) (i:Int) false) (fun k=>?_) (Ev.step (fun k=>?_) ih)
      · simp only [Y10.l0]
        rw [if_pos (by omega),if_pos (by omega),hb,if_neg (by omega),decide_eq_false (by omega)]
      · simp only [Y10.j2]
        rw [if_neg (by simp),if_pos (by omega),if_pos (by omega),hb,w64 (x:=10*(acc:Int)) (by omega) (by omega),w64 (by omega) (by omega),w64 (by omega) (by omega)]
        congr 1
        omega
    · rw [if_neg hg]
      unfold isDig at hg
      by_cases hlt:(c.toNat:Int)<48
      · refine Ev.step (f:=fun k=>Y10.j2 k s (acc:Int) (i:Int) true) (fun k=>?_) (Ev.step (f:=fun _=>some (-1)) (fun k=>by simp [Y10.j2]) (Ev.now _))
        simp only [Y10.l0]
        rw [if_pos (by omega),if_pos (by omega),hb,if_pos hlt]
      · refine Ev.step (f:=fun k=>Y10.j2 k s (acc:Int) (i:Int) true) (fun k=>?_) (Ev.step (f:=fun _=>some (-1)) (fun k=>by simp [Y10.j2]) (Ev.now _))
        simp only [Y10.l0]
        rw [if_pos (by omega),if_pos (by omega),hb,if_neg hlt,decide_eq_true (by omega)]
theorem num_j0 (s:ByteArray) (b:Bool) (hs:b=false→s.size≤9):Ev (fun k=>Y10.j0 k s b) (if b=true then -1 else numF 0 s.data.toList):=by
  cases b with
  | true=>exact Ev.step (f:=fun _=>some (-1)) (fun k=>by simp [Y10.j0]) (Ev.now _)
  | false =>
    rw [if_neg (by simp)]
    refine Ev.step (fun k=>?_) (num_l0 s (hs rfl) _ 0 0 (List.drop_zero ..) (Nat.zero_le _) (by simp))
    simp only [Y10.j0]
    rw [if_neg (by simp)]
    rfl
theorem num_ev (s:ByteArray):Ev (fun k=>Y10.f k s) (numOf s):=by
  unfold Y10.f numOf
  by_cases h1:s.size<1
  · rw [if_pos (.inl h1)]
    exact evPos (by omega) (num_j0 s true (by simp))
  · refine evNeg (by omega) ?_
    by_cases h2:9<s.size
    · rw [if_pos (.inr (.inl h2))]
      exact evPos (by omega) (num_j0 s true (by simp))
    · refine evNeg (by omega) ?_
      by_cases h3:1<s.size
      · refine evPos (by omega) (evPos (by omega) ?_)
        have:=num_j0 s (bt s 0 == 48) (fun _=>by omega)
        by_cases h4:bt s 0=48
        · rw [if_pos (.inr (.inr ⟨h3,h4⟩))]
          rwa [if_pos (by simpa using h4)] at this
        · rw [if_neg (by omega)]
          rwa [if_neg (by simpa using h4)] at this
      · refine evNeg (by omega) ?_
        rw [if_neg (by omega)]
        have:=num_j0 s false (fun _=>by omega)
        rwa [if_neg (by simp)] at this
theorem numOf_is {n:Int} (h0:0≤n) (h1:n≤999999999):numOf (numText n)=n:=by
  obtain ⟨l9,l1⟩:=numText_len h0 h1
  have hn:n.toNat<10 ^ (8+1):=by have:(10:Nat) ^ (8+1)=1000000000:=rfl;omega
  obtain ⟨hv,hd,hh,h4⟩:=digits_val n.toNat
  unfold numOf
  have hz:¬ (1<(numText n).size∧bt (numText n) 0=48):=by
    rintro ⟨a,b⟩
    by_cases hn0:n.toNat<10
    · rw [← ba_len,numText_data h0,Lib.decDigits_one hn0] at a
      simp at a
    · cases hc:Lib.decDigits n.toNat with
      | nil=>exact absurd hc h4
      | cons c r =>
        have:=hh (by omega) c (by rw [hc];rfl)
        have hb:=bt_list (s:=numText n) (i:=0) (c:=c) (by rw [numText_data h0,hc];rfl)
        have hb':bt (numText n) 0=(c.toNat:Int):=hb
        omega
  rw [if_neg (by omega),numText_data h0,numF_val _ _ hd,hv,Int.toNat_of_nonneg h0]
end Go.Proofs.YtkaojnmgflaldaaDoor.Q

namespace Go.Proofs.YtkaojnmgflaldaaDoor.Q
open Go.RowKit Go.Proofs.YtkaojnmgflaldaaDoor.P Go.Proofs.YtkaojnmgflaldaaDoorW.PrintWords Go.Proofs.YtkaojnmgflaldaaDoorW.PrintMore

/-! ### The words of an act's text -/
def restOf (n a b:Int) (key data:ByteArray):List ByteArray:=(if hasA n=true then [numText a] else []) ++ ((if hasB n=true then [numText b] else []) ++ ((if hasK n=true then [key] else []) ++ (if hasD n=true then [data] else [])))
theorem put_data (b:Bool) (o d:ByteArray):(put b o d).data.toList=o.data.toList ++ (if b=true then 32 :: d.data.toList else []):=by
  cases b <;> simp [put]
theorem glue_rest (w:ByteArray) (n a b:Int) (key data:ByteArray):glue w (restOf n a b key data)=(put (hasD n) (put (hasK n) (put (hasB n) (put (hasA n) w (numText a)) (numText b)) key) data).data.toList:=by
  simp only [put_data,glue,restOf]
  cases hasA n <;> cases hasB n <;> cases hasK n <;> cases hasD n <;> simp
def bangOf (pw:Int):ByteArray:=(⟨#[33]⟩:ByteArray) ++ numText pw
theorem text_glue (n a b:Int) (key data:ByteArray) (pw:Int):(actText n a b key data pw).data.toList=if pw = -1 then glue (wordOf n) (restOf n a b key data) else glue (bangOf pw) (wordOf n :: restOf n a b key data):=by
  unfold actText headOf
  by_cases h:pw = -1
  · rw [if_pos h,if_pos h,glue_rest]
  · rw [if_neg h,if_neg h,glue_cons,glue_rest]
    simp only [put_data,bangOf]
    simp
theorem noSp_word (n:Int) (h:isKind n=true):noSp (wordOf n).data.toList:=by
  obtain rfl | rfl | rfl | rfl | rfl | rfl | rfl | rfl | rfl | rfl | rfl | rfl | rfl | rfl | rfl | rfl | rfl:=kinds n h
  all_goals (unfold noSp;decide)
theorem noSp_num {n:Int} (h0:0≤n):noSp (numText n).data.toList:=by
  intro c hc he
  rw [numText_data h0] at hc
  have:=(digits_val n.toNat).2.1 c hc
  unfold isDig at this
  rw [he] at this
  exact absurd this.1 (by decide)
theorem noSp_bang {n:Int} (h0:0≤n):noSp (bangOf n).data.toList:=by
  intro c hc
  have hc':c ∈ 33 :: (numText n).data.toList:=by simpa [bangOf] using hc
  rcases List.mem_cons.1 hc' with rfl | hc'
  · decide
  · exact noSp_num h0 c hc'
theorem noSp_name {s:ByteArray} (h:nameOk s=true):noSp s.data.toList:=by
  intro c hc he
  subst he
  unfold nameOk at h
  rw [Bool.and_eq_true] at h
  have hm:(32:Int) ∈ bytesOf s:=List.mem_map.2 ⟨32,hc,rfl⟩
  cases hb:bytesOf s with
  | nil=>rw [hb] at hm;cases hm
  | cons x r =>
    rw [hb] at hm h
    have h2:=h.2
    simp only [nameList,Bool.and_eq_true,List.all_eq_true] at h2
    rcases List.mem_cons.1 hm with he | hm
    · rw [← he] at h2
      exact absurd h2.1 (by decide)
    · exact absurd (h2.2 _ hm) (by decide)
structure Right (n a b:Int) (key data:ByteArray) (pw:Int):Prop where
  kind:isKind n=true
  a0:0≤a∧a≤999999
  b0:0≤b∧b≤999999
  p0 : -1≤pw∧pw≤10000
  nA:hasA n=false→a=0
  nB:hasB n=false→b=0
  nK:hasK n=false→key=⟨#[]⟩
  nD:hasD n=false→data=⟨#[]⟩
  sK:hasK n=true→noSp key.data.toList
  sD:hasD n=true→noSp data.data.toList
theorem toList_empty {s:ByteArray} (h:s.toList=[]):s=⟨#[]⟩:=by
  apply ba_ext
  rw [Lib.toList_data] at h
  rw [h]
theorem right_of {n a b:Int} {key data:ByteArray} {pw:Int} (h:actOk n a b key data pw=true):Right n a b key data pw:=by
  obtain ⟨h1,h2,h3,h4⟩:=act_parts h
  have hh:=h
  simp only [actOk,Bool.and_eq_true] at hh
  obtain ⟨_,_,ha,hb,hk,hd⟩:=hh
  refine ⟨h1,h2,h3,h4,?_,?_,?_,?_,?_,?_⟩
  · intro e;simpa [smallOk,e] using ha
  · intro e;simpa [smallOk,e] using hb
  · intro e;rw [keyOk,if_neg (by rw [e];simp)] at hk;exact toList_empty (beq_iff_eq.1 hk)
  · intro e;rw [datOk,if_neg (by rw [e];simp)] at hd;exact toList_empty (beq_iff_eq.1 hd)
  · intro e;exact noSp_name (by simpa [keyOk,e] using hk)
  · intro e
    have:nameOk data=true∧data.size≤16:=by simpa [datOk,e] using hd
    exact noSp_name this.1
theorem noSp_rest {n a b:Int} {key data:ByteArray} {pw:Int} (h:Right n a b key data pw):∀ x ∈ restOf n a b key data,noSp x.data.toList:=by
  intro x hx
  simp only [restOf,List.mem_append] at hx
  rcases hx with hx | hx | hx | hx
  · split at hx
    · rw [List.mem_singleton.1 hx];exact noSp_num h.a0.1
    · cases hx
  · split at hx
    · rw [List.mem_singleton.1 hx];exact noSp_num h.b0.1
    · cases hx
  · split at hx
    · rename_i e;rw [List.mem_singleton.1 hx];exact h.sK e
    · cases hx
  · split at hx
    · rename_i e;rw [List.mem_singleton.1 hx];exact h.sD e
    · cases hx
/-! ### The program's reader -/
def fnd (w:ByteArray):List S50→Int→Int
  | [],_ => -1
  | x :: r,i=>if x.f0.data.toList=w.data.toList then i else fnd w r (i+1)
theorem fnd_l0 (l:List S50) (hl:l.length≤1000) (ws:List ByteArray) (hw:0<ws.length) (r:List S50):∀ i:Nat,l.drop i=r→i≤l.length →
    Ev (fun k=>Y2.l0 k l (l.length:Int) (i:Int) ws) (fnd (rdOf ByteArray.empty ws 0) r (i:Int)):=by
  induction r with
  | nil =>
    intro i h hi
    have:=dropNil' h hi
    refine Ev.step (f:=fun _=>some (-1)) (fun k=>?_) (Ev.now _)
    simp only [Y2.l0]
    rw [if_neg (by omega)]
  | cons x r ih =>
    intro i h hi
    obtain ⟨h1,h2,h3⟩:=dropCons h z50
    have e:rd_T50 l (i:Int)=x:=by show l.getD _ _=_;rw [Int.toNat_natCast];exact h2
    have ih:=ih (i+1) h3 (by omega)
    simp only [fnd]
    by_cases hx:x.f0.data.toList=(rdOf ByteArray.empty ws 0).data.toList
    · rw [if_pos hx]
      refine Ev.step (f:=fun _=>some (i:Int)) (fun k=>?_) (Ev.now _)
      simp only [Y2.l0,Y34.f]
      rw [if_pos (by omega),if_pos (by omega),if_pos (by omega),if_pos (by omega),e,Option.bind_some,Lib.toList_data,Lib.toList_data,if_pos (by simpa using hx)]
    · rw [if_neg hx]
      refine Ev.step (fun k=>?_) ih
      simp only [Y2.l0,Y34.f]
      rw [if_pos (by omega),if_pos (by omega),if_pos (by omega),if_pos (by omega),e,Option.bind_some,Lib.toList_data,Lib.toList_data,if_neg (by simpa using hx),w64 (by omega) (by omega)]
      rfl
theorem fnd_range (w:ByteArray) (r:List S50):∀ i:Int,fnd w r i = -1∨(i≤fnd w r i∧fnd w r i<i+r.length):=by
  induction r with
  | nil=>intro i;exact .inl rfl
  | cons x r ih =>
    intro i
    simp only [fnd]
    split
    · right;simp only [List.length_cons];omega
    · have:=ih (i+1)
      simp only [List.length_cons]
      omega
theorem fnd_word (n:Int) (h:isKind n=true):∃ l,Y20.f=some l∧fnd (wordOf n) l 0=n-1:=by
  refine ⟨_,rfl,?_⟩
  obtain rfl | rfl | rfl | rfl | rfl | rfl | rfl | rfl | rfl | rfl | rfl | rfl | rfl | rfl | rfl | rfl | rfl:=kinds n h
  all_goals decide
theorem forms_ascii:∃ l,Y20.f=some l∧l.length=17∧∀ x ∈ l,(∀ y ∈ x.f1.data.toList,y.toNat<128)∧x.f1.size≤4:=⟨_,rfl,rfl,by decide⟩
theorem g_all (ws:List ByteArray) (hz:∀ i,(rdOf ByteArray.empty ws i).size≤1048576) (l:List UInt8):∀ (i:Nat) (k a b:Int) (d e:ByteArray) (p:Int),i+l.length<ws.length→d.size≤1048576→e.size≤1048576 →
    ∃ a' b' d' e',Y4.g ws l i k a b d e p=some (k,a',b',d',e',p)∧d'.size≤1048576∧e'.size≤1048576:=by
  induction l with
  | nil=>intro i k a b d e p _ hd he;exact ⟨a,b,d,e,rfl,hd,he⟩
  | cons c r ih =>
    intro i k a b d e p hl hd he
    simp only [List.length_cons] at hl
    obtain ⟨t,ht⟩:=readNumber_is (rdOf ByteArray.empty ws ((i:Int)+1)) (hz _)
    simp only [Y4.g]
    rw [if_pos (by omega),ht]
    simp only [Option.bind_some]
    split
    · exact ih (i+1) _ _ _ _ _ _ (by omega) hd he
    · split
      · exact ih (i+1) _ _ _ _ _ _ (by omega) hd he
      · split
        · exact ih (i+1) _ _ _ _ _ _ (by omega) (hz _) he
        · exact ih (i+1) _ _ _ _ _ _ (by omega) hd (hz _)
theorem read_num {n:Int} (h0:0≤n) (h1:n≤999999):∃ t,Y23.f (numText n)=some (n,t):=by
  obtain ⟨t,ht⟩:=readNumber_is (numText n) (by have:=(numText_len h0 (by omega)).1;omega)
  rw [pInt_is h0 (by omega)] at ht
  exact ⟨t,ht⟩
theorem g_right {n a b:Int} {key data:ByteArray} {pw:Int} (h:Right n a b key data pw) (w:ByteArray) :
    Y4.g (w :: restOf n a b key data) (formOf n).data.toList 0 n 0 0 (⟨#[]⟩:ByteArray) (⟨#[]⟩:ByteArray) pw=some (n,a,b,key,data,pw):=by
  obtain ⟨ta,hta⟩:=read_num h.a0.1 h.a0.2
  obtain ⟨tb,htb⟩:=read_num h.b0.1 h.b0.2
  obtain ⟨hk,_,_,_,nA,nB,nK,nD,_,_⟩:=h
  rw [form_is n hk]
  unfold restOf
  cases eA:hasA n <;> cases eB:hasB n <;> cases eK:hasK n <;> cases eD:hasD n <;> simp only [eA,eB,eK,eD,forall_const,reduceCtorEq,false_implies] at nA nB nK nD <;> (try subst nA) <;> (try subst nB) <;> (try subst nK) <;> (try subst nD) <;> simp [opt,Y4.g,rdOf,hta,htb]
end Go.Proofs.YtkaojnmgflaldaaDoor.Q

namespace Go.Proofs.YtkaojnmgflaldaaDoor.Q
open Go.RowKit Go.Proofs.YtkaojnmgflaldaaDoor.P Go.Proofs.YtkaojnmgflaldaaDoorW.PrintWords Go.Proofs.YtkaojnmgflaldaaDoorW.PrintMore

def firstLong:List ByteArray→Int→Int
  | [],_ => -1
  | a :: s,i=>if 8000<a.size then i else firstLong s (i+1)
theorem firstLong_any:∀ (s:List ByteArray) (i:Int),0≤i→decide (firstLong s i≥0)=s.any fun a=>decide (8000<a.size)
  | [],i,h=>by simp [firstLong]
  | a :: s,i,h=>by
    have ih:=firstLong_any s (i+1) (by omega)
    by_cases ha:8000<a.size
    · simp [firstLong,ha,h]
    · rw [firstLong,if_neg ha,ih,List.any_cons]
      simp [ha]
theorem isLong_l0 (l:List ByteArray) (hl:l.length≤4611686018427387904):∀ (s:List ByteArray) (i:Nat),l.drop i=s→i≤l.length →
    Ev (fun k=>Y7.l0 k l (l.length:Int) (i:Int)) (firstLong s i)
  | [],i,h,hi=>by
    have:=dropNil' h hi
    refine Ev.step (f:=fun _=>some (-1)) (fun k=>?_) (Ev.now _)
    simp only [Y7.l0]
    rw [if_neg (by omega)]
  | a :: s,i,h,hi=>by
    obtain ⟨h1,h2,h3⟩:=dropCons h ByteArray.empty
    have ih:=isLong_l0 l hl s (i+1) h3 (by omega)
    by_cases ha:8000<a.size
    · refine Ev.step (f:=fun _=>some (firstLong (a :: s) i)) (fun k=>?_) (Ev.now _)
      simp only [Y7.l0,Y40.f,rdOf,Int.toNat_natCast,h2]
      rw [if_pos (by omega),if_pos (by omega),if_pos (by omega)]
      simp [firstLong,ha]
      omega
    · refine Ev.step (fun k=>?_) (show Ev _ (firstLong (a :: s) i) from by simp only [firstLong,if_neg ha];exact ih)
      simp only [Y7.l0,Y40.f,rdOf,Int.toNat_natCast,h2]
      rw [if_pos (by omega),if_pos (by omega),if_pos (by omega),w64 (by omega) (by omega)]
      have:¬ ((a.size:Int)>8000):=by omega
      simp [this]
theorem isLong_ev (l:List ByteArray) (hl:l.length≤4611686018427387904):Ev (fun k=>Y28.f k l) (l.any fun a=>decide (8000<a.size)):=by
  unfold Y28.f Y14.f Y7.f
  have h:=isLong_l0 l hl l 0 rfl (by omega)
  refine Ev.bind (Ev.bind h (Ev.now _)) ?_
  have e:=firstLong_any l 0 (by omega)
  rw [show ((0:Nat):Int)=0 from rfl,e]
  exact Ev.now _
end Go.Proofs.YtkaojnmgflaldaaDoor.Q
