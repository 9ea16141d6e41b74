/- Of drawn sets: merging is commutative, associative with what was merged, and idempotent; a set that has seen all of another one takes nothing from it; and the program's merging is the reference's. No condition. (Part 6 of 6: written by programs of this workplace and by hand, merged.) -/
import Derived.Test.YtlglglbjckpnbaaMFnSynce
import Derived.Test.YtlglglbjckpnbaaRows
import Derived.WalkKit
import Derived.ProofKit
import Derived.OpenShut
import Derived.ShutString
import Derived.ChangeOld
import Derived.Below
import Derived.SizedLaws
import Derived.Test.YtlglglbjckpnbaaMFnSyncWSized
set_option linter.unusedVariables false
set_option linter.unusedSimpArgs false
set_option maxHeartbeats 8000000
set_option maxRecDepth 100000

namespace Go.Proofs.Ytlglglbjckpnbaa.Pure
open Go.RowKit Go.Proofs.Ytlglglbjckpnbaa.P Go.Proofs.Ytlglglbjckpnbaa.Q Go.Proofs.YtlglglbjckpnbaaW.PrintWords Go.Proofs.YtlglglbjckpnbaaW.PrintMore
theorem rdS {l:List S36} {i:Nat} (h:i<l.length):rd_T36 l (i:Int)=l[i]:=by
  simp [rd_T36,List.getD_eq_getElem?_getD,h]
theorem lwSet_l0 (v:List S30) (s:List S36) (hs:s.length≤1048576):∀ (d i:Nat),i+d=s.length→Ev (fun k=>Y26.l0 k (i:Int) v s v s) true:=by
  intro d
  induction d with
  | zero =>
    intro i h
    refine Ev.step (f:=fun _=>some true) (fun k=>?_) (Ev.now _)
    simp only [Y26.l0]
    rw [if_neg (by omega)]
  | succ d ih =>
    intro i h
    refine Ev.step (fun k=>?_) (ih (i+1) (by omega))
    simp only [Y26.l0]
    rw [if_pos (by omega),if_pos (by omega),if_pos (by omega),if_neg (by simp),w64 (by omega) (by omega)]
    rfl
theorem lwSet_refl (v:List S30) (s:List S36) (hv:v.length≤1048576) (hs:s.length≤1048576):Ev (fun k=>Y26.f k v s v s) true :=
  Ev.bind (lwSeen_refl v hv) (evPos rfl (evPos rfl (lwSet_l0 v s hs s.length 0 (by omega))))
theorem lwSets_refl (v:List S30) (s:List S36) (p q c:Int) (hv:v.length≤1048576) (hs:s.length≤1048576) (h:c=0→setOk v s=true):Ev (fun k=>Y38.f k v s p q c v s p q c) true:=by
  refine evPos rfl (evPos (by simp) (Ev.bind (lwSet_refl v s hv hs) (evPos rfl ?_)))
  refine evIte (fun hc=>?_) (fun _=>Ev.now _)
  have:=spec_SetRight_ev v s (by omega) hs
  rw [h hc] at this
  exact Ev.bind this (Ev.now _)
theorem sync_ok {va vb:List S30} {la lb:List S36} (h:(setSync va la vb lb).2.2=0):setOk va la=true∧setOk vb lb=true∧(mrg va la vb lb).length≤8∧setSync va la vb lb=(seenJoin va vb,mrg va la vb lb,0):=by
  unfold setSync at h ⊢
  split at h
  · rename_i h1
    rw [if_pos h1]
    split at h
    · simp at h
    · rename_i h2
      rw [if_neg h2]
      have hl:=foldl_length insS (fun p x=>insS_length x p) (kept va la vb lb) []
      rw [List.length_nil] at hl
      exact ⟨h1.1,h1.2,by unfold mrg;omega,rfl⟩
  · simp at h
theorem sync_of {va vb:List S30} {la lb:List S36} (ha:setOk va la=true) (hb:setOk vb lb=true) (hl:(mrg va la vb lb).length≤8):setSync va la vb lb=(seenJoin va vb,mrg va la vb lb,0):=by
  have hk:=foldl_length insS (fun p x=>insS_length x p) (kept va la vb lb) []
  rw [List.length_nil] at hk
  unfold mrg at hl
  unfold setSync
  rw [if_pos ⟨ha,hb⟩,if_neg (by omega)]
  rfl
theorem sync_right (va:List S30) (la:List S36) (vb:List S30) (lb:List S36) (h:(setSync va la vb lb).2.2=0):setOk (setSync va la vb lb).1 (setSync va la vb lb).2.1=true:=by
  obtain ⟨ha,hb,hl,e⟩:=sync_ok h
  rw [e]
  exact mrg_ok ha hb hl
section
variable {va vb:List S30} {la lb:List S36} (ha:setOk va la=true) (hb:setOk vb lb=true) (hl:(mrg va la vb lb).length≤8)
include ha hb hl
omit ha hb hl in
theorem dots_l2 (w:List S30) (s:List S36) (hs:s.length≤1048576) (p q c p' q' c':Int):∀ (d i:Nat),i+d=s.length→Ev (fun k=>Y6.l2 k (i:Int) w s p q c w s p' q' c') true:=by
  intro d
  induction d with
  | zero =>
    intro i h
    refine Ev.step (f:=fun _=>some true) (fun k=>?_) (Ev.now _)
    simp only [Y6.l2]
    rw [if_neg (by omega)]
  | succ d ih =>
    intro i h
    refine Ev.step (fun k=>?_) (ih (i+1) (by omega))
    simp only [Y6.l2]
    rw [if_pos (by omega),if_pos (by omega),if_pos (by omega),if_neg (by simp),w64 (by omega) (by omega)]
    rfl
theorem tail_ev (hn:∀ x ∈ la,∀ y ∈ lb,same x y→x=y):Ev (fun k=>Y6.l0 k (la.length:Int) va la vb lb (seenJoin va vb) (mrg va la vb lb) 0 0 0 (setSync vb lb va la).1 (setSync vb lb va la).2.1 0 0 (setSync vb lb va la).2.2) true:=by
  have ha8:=((setOk_iff va la).1 ha).2.1
  have hb8:=((setOk_iff vb lb).1 hb).2.1
  have hva:=seenOk_length ((setOk_iff va la).1 ha).1
  have hvb:=seenOk_length ((setOk_iff vb lb).1 hb).1
  have hx:=mrg_ok ha hb hl
  have hj:=seenJoin_length va vb
  have s1:=impl_SetSync_ev va la va la (by omega) (by omega) (by omega) (by omega)
  rw [sync_of ha ha (by rw [mrg_self ha];exact ha8),mrg_self ha,join_self ha] at s1
  have s2:=impl_SetSync_ev (seenJoin va vb) (mrg va la vb lb) va la (by omega) (by omega) (by omega) (by omega)
  rw [sync_of hx ha (by rw [mrg_left ha hb hl];exact hl),mrg_left ha hb hl,join_left ha hb] at s2
  have s3:=impl_SetSync_ev vb lb (seenJoin va vb) (mrg va la vb lb) (by omega) (by omega) (by omega) (by omega)
  rw [sync_of hb hx (by rw [mrg_right ha hb hl hn];exact hl),mrg_right ha hb hl hn,join_right ha hb] at s3
  have ec:seenJoin vb va=seenJoin va vb:=join_comm vb va
  rw [sync_of hb ha (by rw [← mrg_comm ha hb hn];exact hl),← mrg_comm ha hb hn,ec]
  refine Ev.step (f:=fun k=>(Y10.f k va la va la).bind _) (fun k=>by simp only [Y6.l0];rw [if_neg (by omega)]) ?_
  have w1:=lwSet_refl va la (by omega) (by omega)
  have w2:=lwSet_refl (seenJoin va vb) (mrg va la vb lb) (by omega) (by omega)
  have w3:=lwSeen_refl (seenJoin va vb) (by omega)
  have w4:=dots_l2 (seenJoin va vb) (mrg va la vb lb) (by omega) 0 0 0 0 0 0 (mrg va la vb lb).length 0 (by omega)
  refine Ev.bind s1 (Ev.bind w1 (evPos rfl (Ev.bind s2 (Ev.bind w2 (evPos rfl (Ev.bind s3 (Ev.bind w2 (evPos rfl ?_))))))))
  exact evPos (by first | rfl | trivial) (Ev.bind w3 (evPos rfl w4))
theorem pairs_l0:∀ (d i:Nat),i+d=la.length→(∀ x ∈ la.take i,∀ y ∈ lb,same x y→x=y)→Ev (fun k=>Y6.l0 k (i:Int) va la vb lb (seenJoin va vb) (mrg va la vb lb) 0 0 0 (setSync vb lb va la).1 (setSync vb lb va la).2.1 0 0 (setSync vb lb va la).2.2) true:=by
  have ha8:=((setOk_iff va la).1 ha).2.1
  have hb8:=((setOk_iff vb lb).1 hb).2.1
  intro d
  induction d with
  | zero =>
    intro i h hn
    obtain rfl:i=la.length:=by omega
    rw [List.take_length] at hn
    exact tail_ev ha hb hl hn
  | succ d ih =>
    intro i h hn
    have hi:i<la.length:=by omega
    have key:∀ (e j:Nat),j+e=lb.length→(∀ y ∈ lb.take j,same la[i] y→la[i]=y)→Ev (fun k=>Y6.l1 k (i:Int) (j:Int) va la vb lb (seenJoin va vb) (mrg va la vb lb) 0 0 0 (setSync vb lb va la).1 (setSync vb lb va la).2.1 0 0 (setSync vb lb va la).2.2) true:=by
      intro e
      induction e with
      | zero =>
        intro j hj hm
        obtain rfl:j=lb.length:=by omega
        rw [List.take_length] at hm
        refine Ev.step (fun k=>?_) (ih (i+1) (by omega) (fun x hx y hy=>?_))
        · simp only [Y6.l1]
          rw [if_neg (by omega),w64 (by omega) (by omega)]
          rfl
        · rw [List.take_succ_eq_append_getElem hi,List.mem_append,List.mem_singleton] at hx
          rcases hx with hx | rfl
          · exact hn x hx y hy
          · exact hm y hy
      | succ e ie =>
        intro j hj hm
        have hj':j<lb.length:=by omega
        have next:(same la[i] lb[j]→la[i]=lb[j])→Ev (fun k=>Y6.l1 k (i:Int) (wrap64 ((j:Int)+1)) va la vb lb (seenJoin va vb) (mrg va la vb lb) 0 0 0 (setSync vb lb va la).1 (setSync vb lb va la).2.1 0 0 (setSync vb lb va la).2.2) true:=by
          intro hq
          rw [w64 (by omega) (by omega)]
          refine ie (j+1) (by omega) (fun y hy=>?_)
          rw [List.take_succ_eq_append_getElem hj',List.mem_append,List.mem_singleton] at hy
          rcases hy with hy | rfl
          · exact hm y hy
          · exact hq
        have jF:(same la[i] lb[j]→la[i]=lb[j])→Ev (fun k=>Y6.j3 k (i:Int) (j:Int) false va la vb lb (seenJoin va vb) (mrg va la vb lb) 0 0 0 (setSync vb lb va la).1 (setSync vb lb va la).2.1 0 0 (setSync vb lb va la).2.2) true:=fun hq =>
          Ev.step (fun k=>by simp only [Y6.j3];rw [if_neg (by simp)]) (next hq)
        have jT:Ev (fun k=>Y6.j3 k (i:Int) (j:Int) true va la vb lb (seenJoin va vb) (mrg va la vb lb) 0 0 0 (setSync vb lb va la).1 (setSync vb lb va la).2.1 0 0 (setSync vb lb va la).2.2) true :=
          Ev.step (f:=fun _=>some true) (fun k=>by simp only [Y6.j3];rw [if_pos trivial]) (Ev.now _)
        have rx:=rdS hi
        have ry:=rdS hj'
        refine Ev.step (f:=fun k=>if ((la[i].f0.f0 == lb[j].f0.f0) && (la[i].f0.f1 == lb[j].f0.f1))=true then (Y6.j3 k (i:Int) (j:Int) ((!(la[i].f0.f0 == lb[j].f0.f0) || (!(la[i].f0.f1 == lb[j].f0.f1))) || (!(la[i].f1 == lb[j].f1) || (!(la[i].f2.toList == lb[j].f2.toList)))) va la vb lb (seenJoin va vb) (mrg va la vb lb) 0 0 0 (setSync vb lb va la).1 (setSync vb lb va la).2.1 0 0 (setSync vb lb va la).2.2) else (Y6.j3 k (i:Int) (j:Int) false va la vb lb (seenJoin va vb) (mrg va la vb lb) 0 0 0 (setSync vb lb va la).1 (setSync vb lb va la).2.1 0 0 (setSync vb lb va la).2.2)) (fun k=>?_) ?_
        · simp only [Y6.l1,rx,ry]
          rw [if_pos (by omega),if_pos (by omega),if_pos (by omega),if_pos (by omega)]
        · refine evIte (fun hs=>?_) (fun hs=>jF (fun hq=>absurd (by rw [hq.1,hq.2];simp) hs))
          rw [Bool.and_eq_true,beq_iff_eq,beq_iff_eq] at hs
          by_cases hd:la[i].f1=lb[j].f1∧la[i].f2.toList=lb[j].f2.toList
          · have e:((!(la[i].f0.f0 == lb[j].f0.f0) || (!(la[i].f0.f1 == lb[j].f0.f1))) || (!(la[i].f1 == lb[j].f1) || (!(la[i].f2.toList == lb[j].f2.toList))))=false:=by rw [hs.1,hs.2,hd.1,hd.2];simp
            rw [e]
            refine jF (fun _=>?_)
            have hz:la[i].f2=lb[j].f2:=by
              have h1:=hd.2
              rw [toList_data,toList_data] at h1
              generalize la[i].f2=p at h1
              generalize lb[j].f2=q at h1
              obtain ⟨p⟩:=p
              obtain ⟨q⟩:=q
              exact congrArg _ (Array.toList_inj.1 h1)
            generalize la[i]=x at *
            generalize lb[j]=y at *
            obtain ⟨⟨x0,x1⟩,x2,x3⟩:=x
            obtain ⟨⟨y0,y1⟩,y2,y3⟩:=y
            simp only at hs hd hz
            rw [hs.1,hs.2,hd.1,hz]
          · have e:((!(la[i].f0.f0 == lb[j].f0.f0) || (!(la[i].f0.f1 == lb[j].f0.f1))) || (!(la[i].f1 == lb[j].f1) || (!(la[i].f2.toList == lb[j].f2.toList))))=true:=by
              rw [Bool.or_eq_true,Bool.or_eq_true,Bool.or_eq_true]
              refine .inr ?_
              simp only [Bool.not_eq_true',beq_eq_false_iff_ne,ne_eq]
              exact Decidable.not_and_iff_or_not.1 hd
            rw [e]
            exact jT
    refine Ev.step (fun k=>?_) (key lb.length 0 (by omega) (fun y hy=>by simp at hy))
    simp only [Y6.l0]
    rw [if_pos (by omega)]
    rfl
end
theorem FnSync:Y6.Pure:=by
  intro l0 l1 hl0 _ _ hl1 _ _
  refine Ev.rounds ?_
  have j0T:Ev (fun k=>Y6.j0 k l0 l1 true) true:=Ev.step (f:=fun _=>some true) (fun k=>by simp [Y6.j0]) (Ev.now _)
  unfold Y6.f
  refine evIte (fun h0=>j0T) (fun h0=>?_)
  by_cases h1:(l1.length:Int)>1048576
  · rw [decide_eq_true h1];exact j0T
  rw [decide_eq_false h1]
  obtain ⟨va,la,vb,lb,e1,b1,b2,b3,b4⟩:=DrawSetSync_ok l0 (by omega)
  obtain ⟨vc,lc,vd,ld,e2,b5,b6,b7,b8⟩:=DrawSetSync_ok l1 (by omega)
  have x1:=impl_SetSync_ev va la vb lb (by omega) (by omega) (by omega) (by omega)
  have x2:=impl_SetSync_ev vb lb va la (by omega) (by omega) (by omega) (by omega)
  have x3:=spec_SetSync_ev va la vb lb (by omega) (by omega) (by omega) (by omega)
  have x4:=impl_SetSync_ev vc lc vd ld (by omega) (by omega) (by omega) (by omega)
  have x5:=spec_SetSync_ev vc lc vd ld (by omega) (by omega) (by omega) (by omega)
  have n1:=setSync_length va la vb lb
  have n2:=setSync_length vc lc vd ld
  have q1:=lwSets_refl (setSync va la vb lb).1 (setSync va la vb lb).2.1 0 0 (setSync va la vb lb).2.2 (by omega) (by omega) (sync_right va la vb lb)
  have q2:=lwSets_refl (setSync vc lc vd ld).1 (setSync vc lc vd ld).2.1 0 0 (setSync vc lc vd ld).2.2 (by omega) (by omega) (sync_right vc lc vd ld)
  refine Ev.step (f:=fun k=>(Y21.f k l0).bind _) (fun k=>by simp only [Y6.j0];rw [if_neg (by simp)]) ?_
  refine Ev.bind e1 (Ev.bind x1 (Ev.bind x2 (Ev.bind e2 (Ev.bind x3 (Ev.bind q1 (evPos rfl (Ev.bind x4 (Ev.bind x5 (Ev.bind q2 (evPos rfl ?_))))))))))
  refine evIte (fun hc=>?_) (fun _=>Ev.now _)
  obtain ⟨ha,hb,hl,e⟩:=sync_ok (show (setSync va la vb lb).2.2=0 from hc)
  rw [e]
  exact pairs_l0 ha hb hl la.length 0 (by omega) (fun x hx=>by simp at hx)
end Go.Proofs.Ytlglglbjckpnbaa.Pure

namespace Go.Proofs.Ytlglglbjckpnbaa.fnSync
open Go.ChangeShapes Go.WideShapes Go.ChangeAt Go.RowKit
open Go.ChangeMaps (open_string shut_string)
set_option linter.unusedVariables false
theorem own:ownKnob Try.prog.godebug=none:=by kernel_rfl
theorem laidOut:laidOutB Try.prog=true:=by kernel_rfl
def IsRow (k:IntKind) (w:World) (a:Option Addr) (len cap:Nat) (zs:List Int):Prop :=
  (a=none∧len=0∧cap=0∧zs=[]) ∨
  ∃ x,a=some x∧len≤cap∧cap≤maxLen∧zs.length=cap∧(∀ i,i<zs.length→w.cell? (x.add i)=some (.int k (zs.getD i 0)))∧∀ n ∈ zs,(Lit.int k n).wf=true
set_option maxRecDepth 100000 in
theorem lifted (os:Os) (started:os.Started) (H:Type) (enc:TypeId × Value→H) :
    ReturnsInHanded {} Try.checked os 3 .any (Rows.fnSyncSpec.pre6 enc Try.prog Try.f3 Rows.fnSyncRow.domain false) (Rows.fnSyncSpec.post enc Try.prog Try.f3 false true false false):=by
  refine returnsInHanded_of_change_sized (C:=Try.checked) own started (by kernel_rfl) Try.func3
    (ChangeSpec.witness6 (enc:=enc) (C:=Try.checked) false ⟨#[],#[.slice none 0 0,.slice none 0 0],[]⟩ 8 (by kernel_rfl) (by kernel_rfl) (by kernel_rfl) (by kernel_rfl)) ?_
  intro W base args ds gs before hval0 hW hcnd hsz0 _
  have hsz:(DataW.weightsEach Try.prog (Try.f3.params.toList ++ Rows.fnSyncSpec.plain.varTypes Try.prog) (ds ++ gs)).all (· ≤ reachBytes)=true:=hsz0
  have hval:∀ (j:Nat) t v,Try.f3.params[j]? = some t→args[j]? = some v→Value.okWide Try.prog W .any base t v:=hval0
  have hW':=hW
  obtain ⟨p,q,hA0,hV,rfl,hfz,hnd⟩:=hW
  have hA:DataW.TrodAll enc Try.prog W 0 (fun _=>true) true Try.f3.params.toList args.toList ds p:=hA0
  rw [Try.params3] at hA hval hsz
  obtain ⟨v0,vs0,d0,ds0,p0,q0,hargs,rfl,rfl,h0,r0⟩:=trodAll_cons hA
  obtain ⟨v1,vs1,d1,ds1,p1,q1,rfl,rfl,rfl,h1,r1⟩:=trodAll_cons r0
  obtain ⟨rfl,rfl,rfl⟩:=trodAll_nil r1
  obtain rfl:args=#[v0,v1]:=by cases args;simp_all
  obtain ⟨rfl,rfl⟩:=trodVars_none hV
  obtain ⟨a0,Bi2,cap0,rfl⟩:=okWide_slice Try.underlying22 (hval 0 22 v0 rfl rfl)
  have k0:=h0
  have lt0:∀ x ∈ p0,x.block<W.heap.size:=by obtain ⟨m,hm⟩:=k0;exact DataW.trod_lt m _ _ _ hm
  obtain ⟨z0,w0⟩:∃ zs,IsRow .u8 W a0 Bi2 cap0 zs:=by
    obtain ⟨fuel,hf⟩:=h0
    rcases open_ints Try.underlying22 Try.underlying5 (by kernel_rfl) hf with ⟨hcs,_⟩ | ⟨x,l,c,zs,hcs,_,hl,hm,hz,_,hcell,hwz⟩
    · simp [Value.cells] at hcs
      obtain ⟨rfl,rfl,rfl⟩:=hcs
      exact ⟨[],.inl ⟨rfl,rfl,rfl,rfl⟩⟩
    · simp [Value.cells] at hcs
      obtain ⟨rfl,rfl,rfl⟩:=hcs
      exact ⟨zs,.inr ⟨_,rfl,hl,hm,by simpa using hz,hcell,hwz⟩⟩
  have y0:Bi2*1≤140737488351232:=Go.Proofs.YtlglglbjckpnbaaW.PrintWords.sized_ints hsz (j:=0) (t:=22) rfl rfl Try.underlying22 Try.underlying5 (by kernel_rfl) (by kernel_rfl) h0
  obtain ⟨a1,Bi3,Bi4,rfl⟩:=okWide_slice Try.underlying22 (hval 1 22 v1 rfl rfl)
  have k1:=h1
  have lt1:∀ x ∈ p1,x.block<W.heap.size:=by obtain ⟨m,hm⟩:=k1;exact DataW.trod_lt m _ _ _ hm
  obtain ⟨z1,w1⟩:∃ zs,IsRow .u8 W a1 Bi3 Bi4 zs:=by
    obtain ⟨fuel,hf⟩:=h1
    rcases open_ints Try.underlying22 Try.underlying5 (by kernel_rfl) hf with ⟨hcs,_⟩ | ⟨x,l,c,zs,hcs,_,hl,hm,hz,_,hcell,hwz⟩
    · simp [Value.cells] at hcs
      obtain ⟨rfl,rfl,rfl⟩:=hcs
      exact ⟨[],.inl ⟨rfl,rfl,rfl,rfl⟩⟩
    · simp [Value.cells] at hcs
      obtain ⟨rfl,rfl,rfl⟩:=hcs
      exact ⟨zs,.inr ⟨_,rfl,hl,hm,by simpa using hz,hcell,hwz⟩⟩
  have y1:Bi3*1≤140737488351232:=Go.Proofs.YtlglglbjckpnbaaW.PrintWords.sized_ints hsz (j:=1) (t:=22) rfl rfl Try.underlying22 Try.underlying5 (by kernel_rfl) (by kernel_rfl) h1
  clear hA0 hval0 hsz0 hsz
  refine (P.Y6.walk Pure.FnSync a0 Bi2 cap0 z0 a1 Bi3 Bi4 z1 W w0 y0 w1 y1).mono fun e W' ⟨he,bel⟩=>?_
  subst he
  exact ⟨_,rfl,_,_,_,[],_,[],hW',trodAll_mk1 (shut_bool Try.underlying4 _),(trodAll_cons_mk (Below.trod laidOut (by kernel_rfl) (of_decide_eq_true (by kernel_rfl)) k0 bel lt0) (trodAll_cons_mk (Below.trod laidOut (by kernel_rfl) (of_decide_eq_true (by kernel_rfl)) k1 bel lt1) trodAll_mk0)),rfl,bel.frame _,fun h=>by cases h⟩
theorem over:Rows.fnSyncRow.holds Try.pinned (OpenSpec.ofChange Rows.fnSyncSpec) :=
  OpenClaim.holds_of_wide 3 Try.f3 rfl rfl rfl rfl rfl rfl rfl ⟨rfl,rfl,rfl,rfl,rfl⟩ rfl rfl rfl rfl rfl (by kernel_rfl) Try.func3 (by kernel_rfl)
    (of_decide_eq_true (by kernel_rfl)) (by unfold Func.isWrapper;first | (rw [if_pos (by decide +kernel)];kernel_rfl) | (rw [if_neg (by decide +kernel)];exact ⟨rfl,rfl⟩))
    (fun os started H enc _=>lifted os started H enc)
theorem proved:Rows.FnSyncSaid:=over
#print axioms proved
end Go.Proofs.Ytlglglbjckpnbaa.fnSync
namespace Go.Proofs.Ytlglglbjckpnbaa
/-- The row, under a short name, for the claim. -/
theorem fnSync_holds:Rows.FnSyncSaid:=fnSync.proved
end Go.Proofs.Ytlglglbjckpnbaa
