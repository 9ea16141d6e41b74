/- Every text: the program's ActRead and the reference's read the same. No condition. (Part 5 of 5: written by programs of this workplace and by hand, merged.) -/
import Derived.Test.YtkaojnmgflaldaaDoorMFnExactActReadd
import Derived.Test.YtkaojnmgflaldaaDoorMFnExactActReadc
import Derived.Test.YtkaojnmgflaldaaDoorMFnExactActReadb
import Derived.Test.YtkaojnmgflaldaaDoorMFnExactActReada
import Derived.Test.YtkaojnmgflaldaaDoorRows
import Derived.Test.YtkaojnmgflaldaaDoorTie
import Derived.Test.YtkaojnmgflaldaaDoorCards
import Derived.WalkKit
import Derived.ProofKit
import Derived.OpenShut
import Derived.ShutString
import Derived.ChangeOld
import Derived.Below
import Derived.SizedLaws
import Derived.LaidMore
import Derived.Lay
import Derived.LaidOnce
import Derived.SevenTiedAt
import Derived.LaidLaws
import Derived.ChangeSame
import Derived.ChangeVars
import Derived.JoinedOf
import Derived.LaidSub
import Derived.Lib.LaidTab
import Derived.HandedShaped
import Derived.Shelf.Vars
import Derived.Stop.LaidErr
set_option linter.unusedVariables false
set_option linter.unusedSimpArgs false

namespace Go.Proofs.YtkaojnmgflaldaaDoor.Q
open Go.RowKit Go.Proofs.YtkaojnmgflaldaaDoor.P Go.Proofs.YtkaojnmgflaldaaDoorW.PrintWords Go.Proofs.YtkaojnmgflaldaaDoorW.PrintMore

theorem pre_take (w:ByteArray):(w.extract 0 1).data.toList=w.data.toList.take 1:=by rw [Lib.extract_data];simp
theorem cut_is (w:ByteArray):Y31.f w (⟨#[33]⟩:ByteArray)=some (if w.data.toList.take 1=[33] then (w.extract 1 w.size,true) else (w,false)):=by
  have e1:(((⟨#[33]⟩:ByteArray).size:Nat):Int)=1:=rfl
  have e3:(⟨#[33]⟩:ByteArray).toList=[33]:=by rw [Lib.toList_data]
  unfold Y31.f Y33.f Y29.f
  rw [e1]
  by_cases h:w.size<1
  · have hw:w.data.toList=[]:=List.length_eq_zero_iff.1 (by rw [ba_len];omega)
    rw [if_neg (by omega),Option.bind_some,if_neg (by simp),Option.bind_some,if_neg (by rw [hw];simp)]
  · rw [if_pos (by omega),if_pos (by omega),if_pos (by omega),Option.bind_some,show ((1:Int).toNat)=1 from rfl,Lib.toList_data,pre_take,e3]
    by_cases hp:w.data.toList.take 1=[33]
    · rw [if_pos (by rw [hp];rfl),if_pos (by omega),if_pos (by omega),if_pos hp,Option.bind_some]
    · rw [if_neg (by simpa using hp),if_neg hp,Option.bind_some]
theorem cut_size (w:ByteArray):(if w.data.toList.take 1=[33] then (w.extract 1 w.size,true) else (w,false)).1.size≤w.size:=by
  split
  · show (w.extract 1 w.size).size≤_
    rw [← ba_len,Lib.extract_to_end,List.length_drop,ba_len]
    omega
  · exact Nat.le_refl _
theorem cut_bang (pw:Int):(if (bangOf pw).data.toList.take 1=[33] then ((bangOf pw).extract 1 (bangOf pw).size,true) else (bangOf pw,false))=(numText pw,true):=by
  have hb:(bangOf pw).data.toList=33 :: (numText pw).data.toList:=by simp [bangOf]
  rw [if_pos (by rw [hb];rfl)]
  have:(bangOf pw).extract 1 (bangOf pw).size=numText pw:=ba_ext (by rw [Lib.extract_to_end,hb];rfl)
  rw [this]
theorem cut_word (n:Int) (h:isKind n=true):¬ (wordOf n).data.toList.take 1=[33]:=by
  obtain rfl | rfl | rfl | rfl | rfl | rfl | rfl | rfl | rfl | rfl | rfl | rfl | rfl | rfl | rfl | rfl | rfl:=kinds n h
  all_goals decide
theorem j2_tail (s:ByteArray) (vs:List ByteArray) (t pw n a b:Int) (key data:ByteArray) (pw':Int) (hlp:Y4.lp t (wrap64 (1+t)) 0 0 (⟨#[]⟩:ByteArray) (⟨#[]⟩:ByteArray) pw vs=some (n,a,b,key,data,pw')) (hk:key.size≤1048576) (hd:data.size≤1048576) :
    Ev (fun k=>Y4.j2 k s t false 0 0 0 (⟨#[]⟩:ByteArray) (⟨#[]⟩:ByteArray) pw vs) (n,a,b,key,data,pw',if actOk n a b key data pw'=true then (actText n a b key data pw').toList == s.toList else false):=by
  refine Ev.step (f:=fun k=>(Y3.f k n a b key data pw').bind fun t249=>(if t249=true then ((Y18.f n a b key data pw').bind fun t250=>(some (n,a,b,key,data,pw',(t250.toList == s.toList)))) else (some (n,a,b,key,data,pw',false)))) (fun k=>?_) (Ev.bind (impl_ActRight_ev n a b key data pw' hk hd) ?_)
  · simp only [Y4.j2]
    rw [if_neg (by simp),hlp,Option.bind_some]
  · by_cases h:actOk n a b key data pw'=true
    · obtain ⟨h1,h2,h3,h4⟩:=act_parts h
      simp only [if_pos h]
      exact evBind1 (actText_is n a b key data pw' h1 h2 h3 h4 hk hd) (Ev.now _)
    · simp only [if_neg h]
      exact Ev.now _
def ReadOk (s:ByteArray) (r:Int × Int × Int × ByteArray × ByteArray × Int × Bool):Prop:=r.2.2.2.2.2.2=true→actOk r.1 r.2.1 r.2.2.1 r.2.2.2.1 r.2.2.2.2.1 r.2.2.2.2.2.1=true∧actText r.1 r.2.1 r.2.2.1 r.2.2.2.1 r.2.2.2.2.1 r.2.2.2.2.2.1=s
theorem tail_ok (s:ByteArray) (n a b:Int) (key data:ByteArray) (pw:Int):ReadOk s (n,a,b,key,data,pw,if actOk n a b key data pw=true then (actText n a b key data pw).toList == s.toList else false):=by
  intro h
  show actOk n a b key data pw=true∧actText n a b key data pw=s
  have h':(if actOk n a b key data pw=true then (actText n a b key data pw).toList == s.toList else false)=true:=h
  by_cases ho:actOk n a b key data pw=true
  · rw [if_pos ho,Lib.toList_data,Lib.toList_data] at h'
    exact ⟨ho,ba_ext (beq_iff_eq.1 h')⟩
  · rw [if_neg ho] at h';cases h'
theorem j1_go (s:ByteArray) (vs:List ByteArray) (l:List S50) (t pw:Int) (hf:Y20.f=some l) (hi:Ev (fun k=>Y2.f k l vs) t) (r:Int × Int × Int × ByteArray × ByteArray × Int × Bool)
    (h:Ev (fun k=>if t<0 then (Y4.j2 k s t true 0 0 0 (⟨#[]⟩:ByteArray) (⟨#[]⟩:ByteArray) pw vs) else ((Y20.f).bind fun t239=>(if 0≤t then (if t<(t239.length:Int) then (Y4.j2 k s t ((wrap64 ((vs.length:Int)-1)) != (((rd_T50 t239 t).f1).size:Int)) 0 0 0 (⟨#[]⟩:ByteArray) (⟨#[]⟩:ByteArray) pw vs) else (none)) else (none)))) r):Ev (fun k=>Y4.j1 k s 0 0 0 (⟨#[]⟩:ByteArray) (⟨#[]⟩:ByteArray) pw vs) r :=
  Ev.step (f:=fun k=>(Y2.f k l vs).bind fun t=>(if t<0 then (Y4.j2 k s t true 0 0 0 (⟨#[]⟩:ByteArray) (⟨#[]⟩:ByteArray) pw vs) else ((Y20.f).bind fun t239=>(if 0≤t then (if t<(t239.length:Int) then (Y4.j2 k s t ((wrap64 ((vs.length:Int)-1)) != (((rd_T50 t239 t).f1).size:Int)) 0 0 0 (⟨#[]⟩:ByteArray) (⟨#[]⟩:ByteArray) pw vs) else (none)) else (none))))) (fun k=>by simp only [Y4.j1];rw [hf,Option.bind_some]) (Ev.bind hi h)
theorem j1_total (s:ByteArray) (vs:List ByteArray) (hv:0<vs.length) (hl:vs.length≤1048577) (hz:∀ i,(rdOf ByteArray.empty vs i).size≤1048576) (pw:Int) :
    ∃ r,Ev (fun k=>Y4.j1 k s 0 0 0 (⟨#[]⟩:ByteArray) (⟨#[]⟩:ByteArray) pw vs) r∧ReadOk s r:=by
  obtain ⟨l,hf,hl17,hasc⟩:=forms_ascii
  have hi:=fnd_l0 l (by omega) vs hv l 0 rfl (Nat.zero_le _)
  have hr:=fnd_range (rdOf ByteArray.empty vs 0) l 0
  obtain ⟨t,ht⟩:∃ t,fnd (rdOf ByteArray.empty vs 0) l 0=t:=⟨_,rfl⟩
  have hi':Ev (fun k=>Y2.f k l vs) t:=by rw [← ht];exact hi
  rw [ht] at hr
  have go:=j1_go s vs l t pw hf hi'
  have no:Ev (fun k=>Y4.j2 k s t true 0 0 0 (⟨#[]⟩:ByteArray) (⟨#[]⟩:ByteArray) pw vs) (0,0,0,(⟨#[]⟩:ByteArray),(⟨#[]⟩:ByteArray),0,false):=Ev.step (f:=fun _=>some _) (fun k=>by simp [Y4.j2]) (Ev.now _)
  by_cases ht0:t<0
  · exact ⟨_,go _ (evPos ht0 no),(fun h=>by cases h)⟩
  · have ht1:t<(l.length:Int):=by omega
    obtain ⟨c,hc⟩:∃ c,((wrap64 ((vs.length:Int)-1)) != (((rd_T50 l t).f1).size:Int))=c:=⟨_,rfl⟩
    cases c with
    | true =>
      refine ⟨(0,0,0,(⟨#[]⟩:ByteArray),(⟨#[]⟩:ByteArray),0,false),go _ (evNeg ht0 (evBind1 hf (evPos (by omega) (evPos ht1 ?_)))),(fun h=>by cases h)⟩
      rw [hc]
      exact no
    | false =>
      have he:(vs.length:Int)-1=((rd_T50 l t).f1.size:Int):=by rw [w64 (by omega) (by omega)] at hc;simpa using hc
      have hm:rd_T50 l t ∈ l:=by
        have htn:t.toNat<l.length:=by omega
        show l.getD t.toNat _ ∈ l
        rw [List.getD_eq_getElem?_getD,List.getElem?_eq_getElem htn]
        exact List.getElem_mem htn
      obtain ⟨has,h4⟩:=hasc _ hm
      obtain ⟨a',b',d',e',hg,hd',he'⟩:=g_all vs hz (rd_T50 l t).f1.data.toList 0 (wrap64 (1+t)) 0 0 (⟨#[]⟩:ByteArray) (⟨#[]⟩:ByteArray) pw (by rw [ba_len];omega) (by decide) (by decide)
      have hlp:Y4.lp t (wrap64 (1+t)) 0 0 (⟨#[]⟩:ByteArray) (⟨#[]⟩:ByteArray) pw vs=some (wrap64 (1+t),a',b',d',e',pw):=by
        unfold Y4.lp
        rw [hf,Option.bind_some,if_pos (by omega),if_pos ht1,if_pos ⟨has,by omega⟩,hg]
      refine ⟨_,go _ (evNeg ht0 (evBind1 hf (evPos (by omega) (evPos ht1 ?_)))),tail_ok s (wrap64 (1+t)) a' b' d' e' pw⟩
      rw [hc]
      exact j2_tail s vs t pw _ _ _ _ _ _ hlp hd' he'
theorem rest_len (n a b:Int) (key data:ByteArray) (h:isKind n=true):(restOf n a b key data).length=(formOf n).size:=by
  rw [← ba_len,form_is n h]
  unfold restOf opt
  cases hasA n <;> cases hasB n <;> cases hasK n <;> cases hasD n <;> rfl
theorem j1_right {n a b:Int} {key data:ByteArray} {pw:Int} (h:Right n a b key data pw) (ho:actOk n a b key data pw=true) (hk:key.size≤1048576) (hd:data.size≤1048576) (s:ByteArray) (hs:actText n a b key data pw=s) :
    Ev (fun k=>Y4.j1 k s 0 0 0 (⟨#[]⟩:ByteArray) (⟨#[]⟩:ByteArray) pw (wordOf n :: restOf n a b key data)) (n,a,b,key,data,pw,true):=by
  have hk':1≤n∧n≤17:=by simpa only [isKind,isWithin,Bool.and_eq_true,decide_eq_true_eq] using h.kind
  obtain ⟨l,hf,hl17,hasc⟩:=forms_ascii
  obtain ⟨l',hf',hw⟩:=fnd_word n h.kind
  obtain rfl:l=l':=Option.some.inj (hf.symm.trans hf')
  obtain ⟨l',hf',_,hfo⟩:=forms_is
  obtain rfl:l=l':=Option.some.inj (hf.symm.trans hf')
  have hi:=fnd_l0 l (by omega) (wordOf n :: restOf n a b key data) (by simp) l 0 rfl (Nat.zero_le _)
  have hi':Ev (fun k=>Y2.f k l (wordOf n :: restOf n a b key data)) (n-1):=by rw [← hw];exact hi
  have hlen:=rest_len n a b key data h.kind
  have hfn:=hfo n
  have hm:rd_T50 l (n-1) ∈ l:=by
    have htn:(n-1).toNat<l.length:=by omega
    show l.getD (n-1).toNat _ ∈ l
    rw [List.getD_eq_getElem?_getD,List.getElem?_eq_getElem htn]
    exact List.getElem_mem htn
  obtain ⟨has,h4⟩:=hasc _ hm
  rw [← hfn] at has h4
  have hlp:Y4.lp (n-1) (wrap64 (1+(n-1))) 0 0 (⟨#[]⟩:ByteArray) (⟨#[]⟩:ByteArray) pw (wordOf n :: restOf n a b key data)=some (n,a,b,key,data,pw):=by
    unfold Y4.lp
    rw [hf,Option.bind_some,if_pos (by omega),if_pos (by omega),← hfn,if_pos ⟨has,by omega⟩,w64 (by omega) (by omega),show 1+(n-1)=n by omega]
    exact g_right h (wordOf n)
  have ht:=j2_tail s _ (n-1) pw n a b key data pw hlp hk hd
  rw [if_pos ho,hs,beq_self_eq_true] at ht
  refine j1_go s _ l (n-1) pw hf hi' _ (evNeg (by omega) (evBind1 hf (evPos (by omega) (evPos (by omega) ?_))))
  have hc:((wrap64 (((wordOf n :: restOf n a b key data).length:Int)-1)) != (((rd_T50 l (n-1)).f1).size:Int))=false:=by
    rw [← hfn,← hlen,w64 (by simp only [List.length_cons];omega) (by simp only [List.length_cons];omega)]
    simp
  rw [hc]
  exact ht
theorem read_total (s:ByteArray) (hs:s.size≤8000):∃ r,Ev (fun k=>Y4.f k s) r∧ReadOk s r:=by
  obtain ⟨w,ws,hg,h1,h2⟩:=words_of s.data.toList
  have hsz:∀ x ∈ w :: ws,x.size≤s.size∧(w :: ws).length≤s.size+1:=by
    have hl:=congrArg List.length hg
    rw [ba_len,glue_len] at hl
    have hfl:∀ (l:List ByteArray),l.length≤((l.map fun x=>(32:UInt8) :: x.data.toList).flatten).length∧∀ x ∈ l,x.size≤((l.map fun x=>(32:UInt8) :: x.data.toList).flatten).length:=by
      intro l
      induction l with
      | nil=>exact ⟨Nat.le_refl _,fun _ h=>by cases h⟩
      | cons y r ih =>
        simp only [List.map_cons,List.flatten_cons,List.length_append,List.length_cons,ba_len]
        refine ⟨by omega,fun x hx=>?_⟩
        rcases List.mem_cons.1 hx with rfl | hx
        · omega
        · have:=ih.2 x hx;omega
    obtain ⟨f1,f2⟩:=hfl ws
    intro x hx
    refine ⟨?_,by simp only [List.length_cons];omega⟩
    rcases List.mem_cons.1 hx with rfl | hx
    · omega
    · have:=f2 x hx;omega
  have hzz:∀ vs:List ByteArray,(∀ x ∈ vs,x.size≤s.size)→∀ i,(rdOf ByteArray.empty vs i).size≤1048576:=by
    intro vs hv i
    unfold rdOf
    rw [List.getD_eq_getElem?_getD]
    cases he:vs[i.toNat]? with
    | none=>exact Nat.zero_le _
    | some y=>have:=hv y (List.mem_of_getElem? he);show y.size≤_;omega
  have hlen:=(hsz w (List.mem_cons_self ..)).2
  have hw:=(hsz w (List.mem_cons_self ..)).1
  have hcs:=cut_size w
  have hcut:=cut_is w
  generalize (if w.data.toList.take 1=[33] then (w.extract 1 w.size,true) else (w,false))=t at hcs hcut
  obtain ⟨d,c⟩:=t
  have hcs':d.size≤w.size:=hcs
  have j0:∀ f:Bool,(f=true→1<(w :: ws).length)→∃ r,Ev (fun k=>Y4.j0 k s d f 0 0 0 (⟨#[]⟩:ByteArray) (⟨#[]⟩:ByteArray) (-1) (w :: ws)) r∧ReadOk s r:=by
    intro f hf
    cases f with
    | false =>
      obtain ⟨r,hr,hk⟩:=j1_total s (w :: ws) (by simp) (by omega) (hzz _ (fun x hx=>(hsz x hx).1)) (-1)
      exact ⟨r,Ev.step (fun k=>by simp only [Y4.j0];rw [if_neg (by simp)]) hr,hk⟩
    | true =>
      have hl:=hf rfl
      obtain ⟨b,hb⟩:=readNumber_is d (by omega)
      obtain ⟨r,hr,hk⟩:=j1_total s ws (by simp only [List.length_cons] at hl;omega) (by simp only [List.length_cons] at hlen;omega) (hzz _ (fun x hx=>(hsz x (List.mem_cons_of_mem _ hx)).1)) (pInt_ d).1
      refine ⟨r,Ev.step (fun k=>?_) hr,hk⟩
      simp only [Y4.j0]
      rw [if_pos trivial,hb,Option.bind_some,if_pos (by omega)]
      rfl
  have pick:∃ f:Bool,(f=true→1<(w :: ws).length)∧∀ r,Ev (fun k=>Y4.j0 k s d f 0 0 0 (⟨#[]⟩:ByteArray) (⟨#[]⟩:ByteArray) (-1) (w :: ws)) r→Ev (fun k=>Y4.f k s) r:=by
    cases c with
    | true =>
      refine ⟨decide (((w :: ws).length:Int)>1),fun h=>by have:=of_decide_eq_true h;omega,fun r hr=>?_⟩
      unfold Y4.f
      refine evBind1 (split_is s w ws hg h1 h2 (by omega)) (evPos (by simp only [List.length_cons];omega) (evBind1 hcut (evPos rfl hr)))
    | false =>
      refine ⟨false,(fun h=>by cases h),fun r hr=>?_⟩
      unfold Y4.f
      exact evBind1 (split_is s w ws hg h1 h2 (by omega)) (evPos (by simp only [List.length_cons];omega) (evBind1 hcut (evNeg (by simp) hr)))
  obtain ⟨f,hf,hgo⟩:=pick
  obtain ⟨r,hr,hk⟩:=j0 f hf
  exact ⟨r,hgo r hr,hk⟩
theorem read_right {n a b:Int} {key data:ByteArray} {pw:Int} (ho:actOk n a b key data pw=true) (s:ByteArray) (hsz:s.size≤8000) (hk:key.size≤1048576) (hd:data.size≤1048576) (hs:actText n a b key data pw=s) :
    Ev (fun k=>Y4.f k s) (n,a,b,key,data,pw,true):=by
  have h:=right_of ho
  have hj:=j1_right h ho hk hd s hs
  have hg:=text_glue n a b key data pw
  rw [hs] at hg
  unfold Y4.f
  by_cases hp:pw = -1
  · subst hp
    rw [if_pos rfl] at hg
    have hcut:=cut_is (wordOf n)
    rw [if_neg (cut_word n h.kind)] at hcut
    refine evBind1 (split_is s _ _ hg (noSp_word n h.kind) (noSp_rest h) (by omega)) (evPos (by simp only [List.length_cons];omega) (evBind1 hcut (evNeg (by simp) ?_)))
    exact Ev.step (fun k=>by simp only [Y4.j0];rw [if_neg (by simp)]) hj
  · rw [if_neg hp] at hg
    have hcut:=cut_is (bangOf pw)
    rw [cut_bang] at hcut
    have hp0:0≤pw:=by have:=h.p0;omega
    refine evBind1 (split_is s _ _ hg (noSp_bang hp0) (fun x hx=>?_) (by omega)) (evPos (by simp only [List.length_cons];omega) (evBind1 hcut (evPos rfl ?_)))
    · rcases List.mem_cons.1 hx with rfl | hx
      · exact noSp_word n h.kind
      · exact noSp_rest h x hx
    · obtain ⟨t,ht⟩:=read_num hp0 (by have:=h.p0;omega)
      rw [decide_eq_true (by simp only [List.length_cons];omega)]
      refine Ev.step (fun k=>?_) hj
      simp only [Y4.j0]
      rw [if_pos trivial,ht,Option.bind_some,if_pos (by simp only [List.length_cons];omega)]
      rfl
end Go.Proofs.YtkaojnmgflaldaaDoor.Q

namespace Go.Proofs.YtkaojnmgflaldaaDoor.Q
open Go.RowKit Go.Proofs.YtkaojnmgflaldaaDoor.P Go.Proofs.YtkaojnmgflaldaaDoorW.PrintWords Go.Proofs.YtkaojnmgflaldaaDoorW.PrintMore

abbrev AO:=Int × Int × Int × ByteArray × ByteArray × Int × Int
def fin (s:ByteArray) (n a b:Int) (key data:ByteArray) (pw:Int):AO:=if s.toList=[]∨¬ (if actOk n a b key data pw=true then actText n a b key data pw else (⟨#[]⟩:ByteArray)).toList=s.toList then (0,0,0,(⟨#[]⟩:ByteArray),(⟨#[]⟩:ByteArray),0,3) else (n,a,b,key,data,pw,0)
theorem j11_ev (c:Bool) (n a b:Int) (key data:ByteArray) (pw:Int):Ev (fun k=>Y1.j11 k c n a b key data pw) (if c=true then (0,0,0,(⟨#[]⟩:ByteArray),(⟨#[]⟩:ByteArray),0,3) else (n,a,b,key,data,pw,0)):=by
  cases c with
  | true=>exact Ev.step (f:=fun _=>some _) (fun k=>by simp [Y1.j11]) (Ev.now _)
  | false=>exact Ev.step (f:=fun _=>some _) (fun k=>by simp [Y1.j11]) (Ev.now _)
theorem j10_ev (s:ByteArray) (n a b:Int) (key data:ByteArray) (pw:Int) (hk:key.size≤1048576) (hd:data.size≤1048576):Ev (fun k=>Y1.j10 k s n a b key data pw) (fin s n a b key data pw):=by
  unfold fin
  by_cases h:s.toList=[]
  · rw [if_pos (.inl h)]
    refine Ev.step (fun k=>?_) (j11_ev true n a b key data pw)
    simp only [Y1.j10]
    rw [if_pos h]
  · have h2:=spec_ActText_ev n a b key data pw hk hd
    generalize (if actOk n a b key data pw=true then actText n a b key data pw else (⟨#[]⟩:ByteArray))=t at h2 ⊢
    refine Ev.step (f:=fun k=>(Y8.f k n a b key data pw).bind fun t164=>(Y1.j11 k (t164.toList != s.toList) n a b key data pw)) (fun k=>?_) (Ev.bind h2 ?_)
    · simp only [Y1.j10]
      rw [if_neg h]
    · have h3:=j11_ev (t.toList != s.toList) n a b key data pw
      by_cases he:t.toList=s.toList
      · rw [if_neg (by simp [he,h])]
        rwa [if_neg (by simp [he])] at h3
      · rw [if_pos (.inr he)]
        rwa [if_pos (by simpa using he)] at h3
def rdW (ws:List ByteArray) (i:Int):ByteArray:=rdOf ByteArray.empty ws i
def R8 (s:ByteArray) (ws:List ByteArray) (hD:Bool) (i n a b:Int) (key data:ByteArray) (pw:Int):AO:=if (hD && decide (i<(ws.length:Int)))=true then fin s n a b key (rdW ws i) pw else fin s n a b key data pw
def R6 (s:ByteArray) (ws:List ByteArray) (hK hD:Bool) (i n a b:Int) (key data:ByteArray) (pw:Int):AO:=if (hK && decide (i<(ws.length:Int)))=true then R8 s ws hD (i+1) n a b (rdW ws i) data pw else R8 s ws hD i n a b key data pw
def R4 (s:ByteArray) (ws:List ByteArray) (hB hK hD:Bool) (i n a b:Int) (key data:ByteArray) (pw:Int):AO:=if (hB && decide (i<(ws.length:Int)))=true then R6 s ws hK hD (i+1) n a (numOf (rdW ws i)) key data pw else R6 s ws hK hD i n a b key data pw
def R2 (s:ByteArray) (ws:List ByteArray) (hA hB hK hD:Bool) (i n a b:Int) (key data:ByteArray) (pw:Int):AO:=if (hA && decide (i<(ws.length:Int)))=true then R4 s ws hB hK hD (i+1) n (numOf (rdW ws i)) b key data pw else R4 s ws hB hK hD i n a b key data pw
section
variable (s:ByteArray) (ws:List ByteArray) (hz:∀ i,(rdW ws i).size≤1048576)
include hz
theorem j9_ev (f:Bool) (i n a b:Int) (key data:ByteArray) (pw:Int) (hk:key.size≤1048576) (hd:data.size≤1048576) (hi:f=true→0≤i∧i<(ws.length:Int)) :
    Ev (fun k=>Y1.j9 k s ws i f n a b key data pw) (if f=true then fin s n a b key (rdW ws i) pw else fin s n a b key data pw):=by
  cases f with
  | true =>
    obtain ⟨h1,h2⟩:=hi rfl
    refine Ev.step (fun k=>?_) (j10_ev s n a b key (rdW ws i) pw hk (hz i))
    simp only [Y1.j9]
    rw [if_pos trivial,if_pos h1,if_pos h2]
    rfl
  | false =>
    refine Ev.step (fun k=>?_) (j10_ev s n a b key data pw hk hd)
    simp only [Y1.j9]
    rw [if_neg (by simp)]
theorem j8_ev (hD:Bool) (i n a b:Int) (key data:ByteArray) (pw:Int) (hk:key.size≤1048576) (hd:data.size≤1048576) (hi:0≤i) :
    Ev (fun k=>Y1.j8 k s ws i hD n a b key data pw) (R8 s ws hD i n a b key data pw):=by
  have h9:=j9_ev s ws hz (hD && decide (i<(ws.length:Int))) i n a b key data pw hk hd (fun h=>⟨hi,by simp only [Bool.and_eq_true,decide_eq_true_eq] at h;exact h.2⟩)
  refine Ev.step (fun k=>?_) h9
  simp only [Y1.j8]
  cases hD <;> simp
theorem j7_ev (hD f:Bool) (i n a b:Int) (key data:ByteArray) (pw:Int) (hk:key.size≤1048576) (hd:data.size≤1048576) (h0:0≤i) (hx:i≤1048576) (hi:f=true→i<(ws.length:Int)) :
    Ev (fun k=>Y1.j7 k s ws i hD f n a b key data pw) (if f=true then R8 s ws hD (i+1) n a b (rdW ws i) data pw else R8 s ws hD i n a b key data pw):=by
  cases f with
  | true =>
    refine Ev.step (fun k=>?_) (j8_ev s ws hz hD (i+1) n a b (rdW ws i) data pw (hz i) hd (by omega))
    simp only [Y1.j7]
    rw [if_pos trivial,if_pos h0,if_pos (hi rfl),w64 (by omega) (by omega)]
    rfl
  | false =>
    refine Ev.step (fun k=>?_) (j8_ev s ws hz hD i n a b key data pw hk hd h0)
    simp only [Y1.j7]
    rw [if_neg (by simp)]
theorem j6_ev (hK hD:Bool) (i n a b:Int) (key data:ByteArray) (pw:Int) (hk:key.size≤1048576) (hd:data.size≤1048576) (h0:0≤i) (hx:i≤1048576) :
    Ev (fun k=>Y1.j6 k s ws i hK hD n a b key data pw) (R6 s ws hK hD i n a b key data pw):=by
  have h9:=j7_ev s ws hz hD (hK && decide (i<(ws.length:Int))) i n a b key data pw hk hd h0 hx (fun h=>by simp only [Bool.and_eq_true,decide_eq_true_eq] at h;exact h.2)
  refine Ev.step (fun k=>?_) h9
  simp only [Y1.j6]
  cases hK <;> simp
theorem j5_ev (hK hD f:Bool) (i n a b:Int) (key data:ByteArray) (pw:Int) (hk:key.size≤1048576) (hd:data.size≤1048576) (h0:0≤i) (hx:i<1048576) (hi:f=true→i<(ws.length:Int)) :
    Ev (fun k=>Y1.j5 k s ws i hK hD f n a b key data pw) (if f=true then R6 s ws hK hD (i+1) n a (numOf (rdW ws i)) key data pw else R6 s ws hK hD i n a b key data pw):=by
  cases f with
  | true =>
    refine Ev.step (f:=fun k=>(Y10.f k (rdW ws i)).bind fun t161=>(Y1.j6 k s ws (i+1) hK hD n a t161 key data pw)) (fun k=>?_) (Ev.bind (num_ev (rdW ws i)) (j6_ev s ws hz hK hD (i+1) n a _ key data pw hk hd (by omega) (by omega)))
    simp only [Y1.j5]
    rw [if_pos trivial,if_pos h0,if_pos (hi rfl),w64 (by omega) (by omega)]
    rfl
  | false =>
    refine Ev.step (fun k=>?_) (j6_ev s ws hz hK hD i n a b key data pw hk hd h0 (by omega))
    simp only [Y1.j5]
    rw [if_neg (by simp)]
theorem j4_ev (hB hK hD:Bool) (i n a b:Int) (key data:ByteArray) (pw:Int) (hk:key.size≤1048576) (hd:data.size≤1048576) (h0:0≤i) (hx:i<1048576) :
    Ev (fun k=>Y1.j4 k s ws i hB hK hD n a b key data pw) (R4 s ws hB hK hD i n a b key data pw):=by
  have h9:=j5_ev s ws hz hK hD (hB && decide (i<(ws.length:Int))) i n a b key data pw hk hd h0 hx (fun h=>by simp only [Bool.and_eq_true,decide_eq_true_eq] at h;exact h.2)
  refine Ev.step (fun k=>?_) h9
  simp only [Y1.j4]
  cases hB <;> simp
theorem j3_ev (hB hK hD f:Bool) (i n a b:Int) (key data:ByteArray) (pw:Int) (hk:key.size≤1048576) (hd:data.size≤1048576) (h0:0≤i) (hx:i+1<1048576) (hi:f=true→i<(ws.length:Int)) :
    Ev (fun k=>Y1.j3 k s ws i hB hK hD f n a b key data pw) (if f=true then R4 s ws hB hK hD (i+1) n (numOf (rdW ws i)) b key data pw else R4 s ws hB hK hD i n a b key data pw):=by
  cases f with
  | true =>
    refine Ev.step (f:=fun k=>(Y10.f k (rdW ws i)).bind fun t159=>(Y1.j4 k s ws (i+1) hB hK hD n t159 b key data pw)) (fun k=>?_) (Ev.bind (num_ev (rdW ws i)) (j4_ev s ws hz hB hK hD (i+1) n _ b key data pw hk hd (by omega) (by omega)))
    simp only [Y1.j3]
    rw [if_pos trivial,if_pos h0,if_pos (hi rfl),w64 (by omega) (by omega)]
    rfl
  | false =>
    refine Ev.step (fun k=>?_) (j4_ev s ws hz hB hK hD i n a b key data pw hk hd h0 (by omega))
    simp only [Y1.j3]
    rw [if_neg (by simp)]
def lastK (w:ByteArray):Nat→Int→Int→Int
  | 0,_,cur=>cur
  | m+1,i,cur=>lastK w m (i+1) (if w.data.toList=(wordOf i).data.toList then i else cur)
theorem l0_ev (i a b:Int) (key data:ByteArray) (pw:Int) (hk:key.size≤1048576) (hd:data.size≤1048576) (h0:0≤i) (hx:i+3<1048576) (hl:i<(ws.length:Int)) (m:Nat):∀ (j cur:Int),1≤j→j+m=18 →
    Ev (fun k=>Y1.l0 k s ws i j cur a b key data pw) (R2 s ws (hasA (lastK (rdW ws i) m j cur)) (hasB (lastK (rdW ws i) m j cur)) (hasK (lastK (rdW ws i) m j cur)) (hasD (lastK (rdW ws i) m j cur)) (i+1) (lastK (rdW ws i) m j cur) a b key data pw):=by
  induction m with
  | zero =>
    intro j cur h1 h2
    simp only [lastK]
    have h3:=j3_ev s ws hz (hasB cur) (hasK cur) (hasD cur) (hasA cur && decide (i+1<(ws.length:Int))) (i+1) cur a b key data pw hk hd (by omega) (by omega) (fun h=>by simp only [Bool.and_eq_true,decide_eq_true_eq] at h;exact h.2)
    refine Ev.step (f:=fun k=>(Y12.f k cur).bind fun bt154=>(if bt154.1=true then (Y1.j3 k s ws (i+1) bt154.2.1 bt154.2.2.1 bt154.2.2.2 (decide ((i+1)<(ws.length:Int))) cur a b key data pw) else (Y1.j3 k s ws (i+1) bt154.2.1 bt154.2.2.1 bt154.2.2.2 false cur a b key data pw))) (fun k=>?_) (Ev.bind (l15Has_ev cur) ?_)
    · simp only [Y1.l0]
      rw [if_neg (by omega),w64 (by omega) (by omega)]
    · unfold R2
      cases hA:hasA cur with
      | true=>rw [hA] at h3;simpa using h3
      | false=>rw [hA] at h3;simpa using h3
  | succ m ih =>
    intro j cur h1 h2
    have hj:isKind j=true:=by simp only [isKind,isWithin,Bool.and_eq_true,decide_eq_true_eq];omega
    have hw:=l15Word_is j hj
    have h3:=ih (j+1) (if (rdW ws i).data.toList=(wordOf j).data.toList then j else cur) (by omega) (by omega)
    simp only [lastK]
    refine Ev.step (f:=fun k=>(Y9.f k j).bind fun t153=>(if (rdW ws i).toList=t153.toList then (Y1.l0 k s ws i (j+1) j a b key data pw) else (Y1.l0 k s ws i (j+1) cur a b key data pw))) (fun k=>?_) (Ev.bind hw ?_)
    · simp only [Y1.l0]
      rw [if_pos (by omega),if_pos h0,if_pos hl,w64 (by omega) (by omega)]
      rfl
    · simp only [Lib.toList_data]
      by_cases he:(rdW ws i).data.toList=(wordOf j).data.toList
      · simp only [if_pos he] at h3 ⊢
        exact h3
      · simp only [if_neg he] at h3 ⊢
        exact h3
end
theorem lastK_word (n:Int) (h:isKind n=true):lastK (wordOf n) 17 1 0=n:=by
  obtain rfl | rfl | rfl | rfl | rfl | rfl | rfl | rfl | rfl | rfl | rfl | rfl | rfl | rfl | rfl | rfl | rfl:=kinds n h
  all_goals decide
theorem R2_fin (s:ByteArray) (ws:List ByteArray) (hA hB hK hD:Bool) (i n a b:Int) (key data:ByteArray) (pw:Int):∃ a' b' key' data',R2 s ws hA hB hK hD i n a b key data pw=fin s n a' b' key' data' pw:=by
  unfold R2 R4 R6 R8
  repeat' split
  all_goals exact ⟨_,_,_,_,rfl⟩
theorem R2_at0 {n a b:Int} {key data:ByteArray} {pw:Int} (h:Right n a b key data pw) (s w:ByteArray) :
    R2 s (w :: restOf n a b key data) (hasA n) (hasB n) (hasK n) (hasD n) 1 n 0 0 (⟨#[]⟩:ByteArray) (⟨#[]⟩:ByteArray) pw=fin s n a b key data pw:=by
  have ha:=numOf_is h.a0.1 (by have:=h.a0.2;omega)
  have hb:=numOf_is h.b0.1 (by have:=h.b0.2;omega)
  obtain ⟨hk,_,_,_,nA,nB,nK,nD,_,_⟩:=h
  unfold restOf
  cases eA:hasA n <;> cases eB:hasB n <;> cases eK:hasK n <;> cases eD:hasD n <;> simp only [eA,eB,eK,eD,forall_const,reduceCtorEq,false_implies] at nA nB nK nD <;> (try subst nA) <;> (try subst nB) <;> (try subst nK) <;> (try subst nD) <;> simp [R2,R4,R6,R8,rdW,rdOf,ha,hb]
theorem R2_at1 {n a b:Int} {key data:ByteArray} {pw:Int} (h:Right n a b key data pw) (s u w:ByteArray) :
    R2 s (u :: w :: restOf n a b key data) (hasA n) (hasB n) (hasK n) (hasD n) 2 n 0 0 (⟨#[]⟩:ByteArray) (⟨#[]⟩:ByteArray) pw=fin s n a b key data pw:=by
  have ha:=numOf_is h.a0.1 (by have:=h.a0.2;omega)
  have hb:=numOf_is h.b0.1 (by have:=h.b0.2;omega)
  obtain ⟨hk,_,_,_,nA,nB,nK,nD,_,_⟩:=h
  unfold restOf
  cases eA:hasA n <;> cases eB:hasB n <;> cases eK:hasK n <;> cases eD:hasD n <;> simp only [eA,eB,eK,eD,forall_const,reduceCtorEq,false_implies] at nA nB nK nD <;> (try subst nA) <;> (try subst nB) <;> (try subst nK) <;> (try subst nD) <;> simp [R2,R4,R6,R8,rdW,rdOf,ha,hb]
end Go.Proofs.YtkaojnmgflaldaaDoor.Q

namespace Go.Proofs.YtkaojnmgflaldaaDoor.Pure
open Go.RowKit Go.Proofs.YtkaojnmgflaldaaDoor.P Go.Proofs.YtkaojnmgflaldaaDoor.Q Go.Proofs.YtkaojnmgflaldaaDoorW.PrintWords Go.Proofs.YtkaojnmgflaldaaDoorW.PrintMore

theorem words_small (s w:ByteArray) (ws:List ByteArray) (hg:s.data.toList=glue w ws):(∀ x ∈ w :: ws,x.size≤s.size)∧(w :: ws).length≤s.size+1:=by
  have hl:=congrArg List.length hg
  rw [ba_len,glue_len] at hl
  have hfl:∀ (l:List ByteArray),l.length≤((l.map fun x=>(32:UInt8) :: x.data.toList).flatten).length∧∀ x ∈ l,x.size≤((l.map fun x=>(32:UInt8) :: x.data.toList).flatten).length:=by
    intro l
    induction l with
    | nil=>exact ⟨Nat.le_refl _,fun _ h=>by cases h⟩
    | cons y r ih =>
      simp only [List.map_cons,List.flatten_cons,List.length_append,List.length_cons,ba_len]
      refine ⟨by omega,fun x hx=>?_⟩
      rcases List.mem_cons.1 hx with rfl | hx
      · omega
      · have:=ih.2 x hx;omega
  obtain ⟨f1,f2⟩:=hfl ws
  refine ⟨fun x hx=>?_,by simp only [List.length_cons];omega⟩
  rcases List.mem_cons.1 hx with rfl | hx
  · omega
  · have:=f2 x hx;omega
theorem words_z (s w:ByteArray) (ws:List ByteArray) (hg:s.data.toList=glue w ws) (hs:s.size≤8000) (i:Int):(rdW (w :: ws) i).size≤1048576:=by
  obtain ⟨h1,_⟩:=words_small s w ws hg
  unfold rdW rdOf
  rw [List.getD_eq_getElem?_getD]
  cases he:(w :: ws)[i.toNat]? with
  | none=>exact Nat.zero_le _
  | some y=>have:=h1 y (List.mem_of_getElem? he);show y.size≤_;omega
def J1 (s:ByteArray) (ws:List ByteArray) (i pw:Int):AO:=R2 s ws (hasA (lastK (rdW ws i) 17 1 0)) (hasB (lastK (rdW ws i) 17 1 0)) (hasK (lastK (rdW ws i) 17 1 0)) (hasD (lastK (rdW ws i) 17 1 0)) (i+1) (lastK (rdW ws i) 17 1 0) 0 0 (⟨#[]⟩:ByteArray) (⟨#[]⟩:ByteArray) pw
theorem j1_sp (s:ByteArray) (ws:List ByteArray) (hz:∀ i,(rdW ws i).size≤1048576) (i pw:Int) (h0:0≤i) (hx:i≤1) (hl:i<(ws.length:Int)) :
    Ev (fun k=>Y1.j1 k s ws i 0 0 0 (⟨#[]⟩:ByteArray) (⟨#[]⟩:ByteArray) pw) (J1 s ws i pw):=by
  refine Ev.step (fun k=>?_) (l0_ev s ws hz i 0 0 (⟨#[]⟩:ByteArray) (⟨#[]⟩:ByteArray) pw (by decide) (by decide) h0 (by omega) hl 17 1 0 (by omega) (by omega))
  simp only [Y1.j1]
theorem j0_sp (s w:ByteArray) (ws:List ByteArray) (hz:∀ i,(rdW (w :: ws) i).size≤1048576) (f:Bool) (hf:f=true→1≤w.size∧1<(w :: ws).length) :
    Ev (fun k=>Y1.j0 k s (w :: ws) 0 f 0 0 0 (⟨#[]⟩:ByteArray) (⟨#[]⟩:ByteArray) (-1)) (if f=true then J1 s (w :: ws) 1 (numOf (w.extract 1 w.size)) else J1 s (w :: ws) 0 (-1)):=by
  cases f with
  | true =>
    obtain ⟨h1,h2⟩:=hf rfl
    refine Ev.step (f:=fun k=>(Y10.f k (w.extract 1 w.size)).bind fun t151=>(Y1.j1 k s (w :: ws) 1 0 0 0 (⟨#[]⟩:ByteArray) (⟨#[]⟩:ByteArray) t151)) (fun k=>?_) (Ev.bind (num_ev _) (j1_sp s (w :: ws) hz 1 _ (by omega) (by omega) (by omega)))
    simp only [Y1.j0]
    rw [if_pos trivial,if_pos (by omega),if_pos (by show (1:Int)≤(w.size:Int);omega)]
    rfl
  | false =>
    refine Ev.step (fun k=>?_) (j1_sp s (w :: ws) hz 0 (-1) (by omega) (by omega) (by simp only [List.length_cons];omega))
    simp only [Y1.j0]
    rw [if_neg (by simp)]
theorem sp_total (s:ByteArray) (hs:s.size≤8000):∃ n a b key data pw,Ev (fun k=>Y1.f k s) (fin s n a b key data pw):=by
  obtain ⟨w,ws,hg,h1,h2⟩:=words_of s.data.toList
  have hz:=words_z s w ws hg hs
  have hJ:∀ i pw,∃ n a b key data pw',J1 s (w :: ws) i pw=fin s n a b key data pw':=fun i pw=>by
    obtain ⟨a',b',k',d',e⟩:=R2_fin s (w :: ws) (hasA (lastK (rdW (w :: ws) i) 17 1 0)) (hasB (lastK (rdW (w :: ws) i) 17 1 0)) (hasK (lastK (rdW (w :: ws) i) 17 1 0)) (hasD (lastK (rdW (w :: ws) i) 17 1 0)) (i+1) (lastK (rdW (w :: ws) i) 17 1 0) 0 0 (⟨#[]⟩:ByteArray) (⟨#[]⟩:ByteArray) pw
    exact ⟨_,_,_,_,_,_,e⟩
  have pick:∃ f:Bool,(f=true→1≤w.size∧1<(w :: ws).length)∧∀ r,Ev (fun k=>Y1.j0 k s (w :: ws) 0 f 0 0 0 (⟨#[]⟩:ByteArray) (⟨#[]⟩:ByteArray) (-1)) r→Ev (fun k=>Y1.f k s) r:=by
    by_cases hw:(w.size:Int)>1
    · by_cases hb:bt w 0=33
      · refine ⟨decide (((w :: ws).length:Int)>1),fun h=>by have:=of_decide_eq_true h;omega,fun r hr=>?_⟩
        unfold Y1.f
        exact evNeg (by omega) (Ev.bind (l01Split_ev s w ws hg h1 h2 (by omega)) (evPos (by simp only [List.length_cons];omega) (evPos hw (evPos (by show (0:Int)<(w.size:Int);omega) (evPos hb hr)))))
      · refine ⟨false,(fun h=>by cases h),fun r hr=>?_⟩
        unfold Y1.f
        exact evNeg (by omega) (Ev.bind (l01Split_ev s w ws hg h1 h2 (by omega)) (evPos (by simp only [List.length_cons];omega) (evPos hw (evPos (by show (0:Int)<(w.size:Int);omega) (evNeg hb hr)))))
    · refine ⟨false,(fun h=>by cases h),fun r hr=>?_⟩
      unfold Y1.f
      exact evNeg (by omega) (Ev.bind (l01Split_ev s w ws hg h1 h2 (by omega)) (evPos (by simp only [List.length_cons];omega) (evNeg hw hr)))
  obtain ⟨f,hf,hgo⟩:=pick
  have hj:=hgo _ (j0_sp s w ws hz f hf)
  cases f with
  | true=>rw [if_pos rfl] at hj;obtain ⟨n,a,b,key,data,pw,e⟩:=hJ 1 (numOf (w.extract 1 w.size));rw [e] at hj;exact ⟨n,a,b,key,data,pw,hj⟩
  | false=>rw [if_neg (by simp)] at hj;obtain ⟨n,a,b,key,data,pw,e⟩:=hJ 0 (-1);rw [e] at hj;exact ⟨n,a,b,key,data,pw,hj⟩
theorem bt_word (n:Int) (h:isKind n=true):¬ bt (wordOf n) 0=33:=by
  obtain rfl | rfl | rfl | rfl | rfl | rfl | rfl | rfl | rfl | rfl | rfl | rfl | rfl | rfl | rfl | rfl | rfl:=kinds n h
  all_goals decide
theorem sp_right {n a b:Int} {key data:ByteArray} {pw:Int} (ho:actOk n a b key data pw=true) (s:ByteArray) (hsz:s.size≤8000) (hs:actText n a b key data pw=s) :
    Ev (fun k=>Y1.f k s) (fin s n a b key data pw):=by
  have h:=right_of ho
  have hg:=text_glue n a b key data pw
  rw [hs] at hg
  unfold Y1.f
  by_cases hp:pw = -1
  · subst hp
    rw [if_pos rfl] at hg
    have hz:=words_z s _ _ hg hsz
    have hj:=j0_sp s (wordOf n) (restOf n a b key data) hz false (fun h=>by cases h)
    rw [if_neg (by simp)] at hj
    have e:J1 s (wordOf n :: restOf n a b key data) 0 (-1)=fin s n a b key data (-1):=by
      have hl:lastK (rdW (wordOf n :: restOf n a b key data) 0) 17 1 0=n:=lastK_word n h.kind
      unfold J1
      rw [hl]
      exact R2_at0 h s (wordOf n)
    rw [e] at hj
    refine evNeg (by omega) (Ev.bind (l01Split_ev s _ _ hg (noSp_word n h.kind) (noSp_rest h) (by omega)) (evPos (by simp only [List.length_cons];omega) ?_))
    show Ev (fun k=>if ((wordOf n).size:Int)>1 then _ else _) _
    by_cases hw:((wordOf n).size:Int)>1
    · exact evPos hw (evPos (by show (0:Int)<((wordOf n).size:Int);omega) (evNeg (bt_word n h.kind) hj))
    · exact evNeg hw hj
  · rw [if_neg hp] at hg
    have hp0:0≤pw:=by have:=h.p0;omega
    have hz:=words_z s _ _ hg hsz
    have hlen:=(numText_len hp0 (by have:=h.p0;omega)).2
    have hbs:(bangOf pw).size=1+(numText pw).size:=by unfold bangOf;rw [ByteArray.size_append];rfl
    have hj:=j0_sp s (bangOf pw) (wordOf n :: restOf n a b key data) hz true (fun _=>⟨by omega,by simp only [List.length_cons];omega⟩)
    rw [if_pos rfl] at hj
    have hbd:(bangOf pw).data.toList=33 :: (numText pw).data.toList:=by simp [bangOf]
    have hx:(bangOf pw).extract 1 (bangOf pw).size=numText pw:=ba_ext (by rw [Lib.extract_to_end,hbd];rfl)
    have hb33:bt (bangOf pw) 0=33:=bt_list (s:=bangOf pw) (i:=0) (c:=33) (by rw [hbd];rfl)
    have e:J1 s (bangOf pw :: wordOf n :: restOf n a b key data) 1 (numOf ((bangOf pw).extract 1 (bangOf pw).size))=fin s n a b key data pw:=by
      have hl:lastK (rdW (bangOf pw :: wordOf n :: restOf n a b key data) 1) 17 1 0=n:=lastK_word n h.kind
      unfold J1
      rw [hl,hx,numOf_is hp0 (by have:=h.p0;omega)]
      exact R2_at1 h s (bangOf pw) (wordOf n)
    rw [e] at hj
    refine evNeg (by omega) (Ev.bind (l01Split_ev s _ _ hg (noSp_bang hp0) (fun x hx=>?_) (by omega)) (evPos (by simp only [List.length_cons];omega) (evPos (by show ((bangOf pw).size:Int)>1;omega) (evPos (by show (0:Int)<((bangOf pw).size:Int);omega) (evPos hb33 ?_)))))
    · rcases List.mem_cons.1 hx with rfl | hx
      · exact noSp_word n h.kind
      · exact noSp_rest h x hx
    · rw [decide_eq_true (by simp only [List.length_cons];omega)]
      exact hj
theorem word_ne (n:Int) (h:isKind n=true):(wordOf n).data.toList≠[]:=by
  obtain rfl | rfl | rfl | rfl | rfl | rfl | rfl | rfl | rfl | rfl | rfl | rfl | rfl | rfl | rfl | rfl | rfl:=kinds n h
  all_goals decide
theorem fin_right {n a b:Int} {key data:ByteArray} {pw:Int} (ho:actOk n a b key data pw=true) (s:ByteArray) (hs:actText n a b key data pw=s):fin s n a b key data pw=(n,a,b,key,data,pw,0):=by
  have h:=right_of ho
  have hg:=text_glue n a b key data pw
  rw [hs] at hg
  have hne:¬ s.toList=[]:=by
    intro he
    rw [Lib.toList_data,hg] at he
    split at he
    · unfold glue at he
      exact word_ne n h.kind (List.append_eq_nil_iff.1 he).1
    · unfold glue bangOf at he
      have:=(List.append_eq_nil_iff.1 he).1
      simp at this
  unfold fin
  rw [if_neg (by rw [if_pos ho,hs];simp [hne])]
theorem fin_no (s:ByteArray) (n a b:Int) (key data:ByteArray) (pw:Int) (h:¬ ∃ n a b key data pw,actOk n a b key data pw=true∧actText n a b key data pw=s):fin s n a b key data pw=(0,0,0,(⟨#[]⟩:ByteArray),(⟨#[]⟩:ByteArray),0,3):=by
  unfold fin
  refine if_pos ?_
  by_cases he:s.toList=[]
  · exact .inl he
  · right
    by_cases ho:actOk n a b key data pw=true
    · rw [if_pos ho]
      intro e
      rw [Lib.toList_data,Lib.toList_data] at e
      exact h ⟨n,a,b,key,data,pw,ho,ba_ext e⟩
    · rw [if_neg ho]
      intro e
      exact he (by rw [← e,Lib.toList_data])
theorem eq_self (x:AO):Y39.f x.1 x.2.1 x.2.2.1 x.2.2.2.1 x.2.2.2.2.1 x.2.2.2.2.2.1 x.2.2.2.2.2.2 x.1 x.2.1 x.2.2.1 x.2.2.2.1 x.2.2.2.2.1 x.2.2.2.2.2.1 x.2.2.2.2.2.2=some true:=by
  simp [Y39.f,Y42.f]
theorem law_of (s:ByteArray) (hs:s.size≤1048576) (x:AO) (h1:Ev (fun k=>Y1.f k s) x) (h2:Ev (fun k=>Y26.f k s) x):Ev (fun k=>Y21.f k s) true:=by
  unfold Y21.f
  exact evNeg (by omega) (Ev.bind h1 (Ev.bind h2 (evBind1 (eq_self x) (evPos rfl (Ev.now _)))))
theorem FnExactActRead:Y21.Pure:=by
  intro s hs
  refine Ev.rounds ?_
  by_cases hb:(s.size:Int)>1048576
  · unfold Y21.f
    exact evPos hb (Ev.now _)
  have hlong:=isLong_ev [s] (by simp only [List.length_cons,List.length_nil];omega)
  by_cases h8:8000<s.size
  · refine law_of s (by omega) (0,0,0,(⟨#[]⟩:ByteArray),(⟨#[]⟩:ByteArray),0,2) ?_ ?_
    · unfold Y1.f
      exact evPos (by omega) (Ev.now _)
    · unfold Y26.f
      exact Ev.bind hlong (evPos (by simpa using h8) (Ev.now _))
  have go:∀ r:Int × Int × Int × ByteArray × ByteArray × Int × Bool,Ev (fun k=>Y4.f k s) r→Ev (fun k=>Y26.f k s) (if r.2.2.2.2.2.2=true then (r.1,r.2.1,r.2.2.1,r.2.2.2.1,r.2.2.2.2.1,r.2.2.2.2.2.1,0) else (0,0,0,(⟨#[]⟩:ByteArray),(⟨#[]⟩:ByteArray),0,3)):=fun r h=>by
    unfold Y26.f
    refine Ev.bind hlong (evNeg (by simpa using h8) (Ev.bind h ?_))
    by_cases hc:r.2.2.2.2.2.2=true
    · simp only [if_pos hc];exact Ev.now _
    · simp only [if_neg hc];exact Ev.now _
  by_cases hex:∃ n a b key data pw,actOk n a b key data pw=true∧actText n a b key data pw=s
  · obtain ⟨n,a,b,key,data,pw,ho,ht⟩:=hex
    have hsp:=sp_right ho s (by omega) ht
    rw [fin_right ho s ht] at hsp
    have hkd:key.size≤1048576∧data.size≤1048576:=by
      have hh:=ho
      simp only [actOk,Bool.and_eq_true] at hh
      obtain ⟨_,_,_,_,hk,hd⟩:=hh
      constructor
      · unfold keyOk at hk
        split at hk
        · unfold nameOk at hk;simp only [Bool.and_eq_true,decide_eq_true_eq] at hk;omega
        · rw [toList_empty (beq_iff_eq.1 hk)];decide
      · unfold datOk at hd
        split at hd
        · simp only [Bool.and_eq_true,decide_eq_true_eq] at hd;omega
        · rw [toList_empty (beq_iff_eq.1 hd)];decide
    exact law_of s (by omega) _ hsp (go _ (read_right ho s (by omega) hkd.1 hkd.2 ht))
  · obtain ⟨n,a,b,key,data,pw,hsp⟩:=sp_total s (by omega)
    rw [fin_no s n a b key data pw hex] at hsp
    obtain ⟨r,hr,hk⟩:=read_total s (by omega)
    have hc:¬ r.2.2.2.2.2.2=true:=fun hc=>by
      obtain ⟨h1,h2⟩:=hk hc
      exact hex ⟨_,_,_,_,_,_,h1,h2⟩
    have hi:=go r hr
    rw [if_neg hc] at hi
    exact law_of s (by omega) _ hsp hi
end Go.Proofs.YtkaojnmgflaldaaDoor.Pure

namespace Go.Proofs.YtkaojnmgflaldaaDoor.fnExactActRead
open Go.ChangeShapes Go.WideShapes Go.ChangeAt Go.RowKit Go.Proofs.YtkaojnmgflaldaaDoor.P Go.Proofs.YtkaojnmgflaldaaDoorW.PrintWords
open Go.ChangeMaps (open_string shut_string)
set_option linter.unusedVariables false
theorem own:ownKnob Tryd.prog.godebug=none:=by kernel_rfl
theorem laidOut:laidOutB Tryd.prog=true:=by kernel_rfl
theorem star : "*" ++ "errors.errorString" = "*errors.errorString" := by decide
theorem rowE (u:TypeId) (h:Tryd.prog.typeName? 3 u=some "*errors.errorString"):u=100 :=
  typeName_ptr_named (nm := "errors.errorString") (by rw [star];kernel_rfl) (by kernel_rfl) (by decide) u (by rw [star];exact h)
set_option maxRecDepth 100000 in
theorem lifted (os:Os) (started:os.Started) (H:Type) (enc:TypeId × Value→H) :
    ReturnsInHanded {} Tryd.checked os 3 .any (fun w args=>(Rows.fnExactActReadSpec.pre enc Tryd.prog Tryd.f3 Rows.fnExactActReadRow.domain false w args∧laidMetH Tryd.prog Rows.fnExactActReadRow.laid w)∧sizedMet enc Tryd.prog Tryd.f3 (OpenSpec.ofChange Rows.fnExactActReadSpec) false w args) (Rows.fnExactActReadSpec.post enc Tryd.prog Tryd.f3 false true false false):=by
  have contract:∀ (W:World) (base:Nat) (args:Array Value) (ds gs:List (DataW H)) (before:List MemPlace),(∀ (j:Nat) t v,Tryd.f3.params[j]? = some t→args[j]? = some v→Value.okWide Tryd.prog W .any base t v) →
      DataW.Whole enc Tryd.prog Tryd.f3.params.toList Rows.fnExactActReadSpec.vars false W args.toList ds gs before →
      (DataW.weightsEach Tryd.prog (Tryd.f3.params.toList ++ Rows.fnExactActReadSpec.plain.varTypes Tryd.prog) (ds ++ gs)).all (· ≤ reachBytes)=true →
      laidMetH Tryd.prog Rows.fnExactActReadRow.laid W→W.ShapedOpen Tryd.prog →
      Calls Tryd.prog 3 args W fun e W'=>∃ v,e = .returned v∧Rows.fnExactActReadSpec.post enc Tryd.prog Tryd.f3 false true false false W args v W':=by
    intro W base args ds gs before hval0 hW hsz0 hL_ hshape
    have hsz:(DataW.weightsEach Tryd.prog (Tryd.f3.params.toList ++ Rows.fnExactActReadSpec.plain.varTypes Tryd.prog) (ds ++ gs)).all (· ≤ reachBytes)=true:=hsz0
    have hval:∀ (j:Nat) t v,Tryd.f3.params[j]? = some t→args[j]? = some v→Value.okWide Tryd.prog W .any base t v:=hval0
    have hW':=hW
    obtain ⟨p,q,hA0,hV,rfl,hfz,hnd⟩:=hW
    have hA:DataW.TrodAll enc Tryd.prog W 0 (fun _=>true) true Tryd.f3.params.toList args.toList ds p:=hA0
    rw [Tryd.params3] at hA hval hsz
    obtain ⟨v0,vs0,d0,ds0,p0,q0,hargs,rfl,rfl,h0,r0⟩:=trodAll_cons hA
    obtain ⟨rfl,rfl,rfl⟩:=trodAll_nil r0
    obtain rfl:args=#[v0]:=by cases args;simp_all
    obtain ⟨rfl,rfl⟩:=trodVars_none hV
    obtain ⟨x0,rfl,rfl,rfl,y0⟩:=open_string Tryd.underlying9 (hval 0 9 v0 rfl rfl) h0
    have w0:x0.size≤140737488351232:=by
      have z:=sized_string hsz (j:=0) (t:=9) rfl rfl
      rw [Array.length_toList] at z
      exact z
    have htab_:P.Tab_ W:=by
      rw [MakeChecks.laidMetH_plain _ _ _ (by kernel_rfl)] at hL_
      refine ⟨?_,?_,?_,?_⟩
      · have h_:=laidMet.filter (fun x=>x.1 == "internal/strconv.uint64pow10") hL_
        have e_:(Rows.fnExactActReadRow.laid).filter (fun x=>x.1 == "internal/strconv.uint64pow10")=[("internal/strconv.uint64pow10", Lib.tabData .u64 Lib.pow10Tab)]:=by kernel_rfl
        rw [e_] at h_
        exact Lib.tabIs_of_head (g:=5) (t:=104) (e:=73) (n:=20) (by kernel_rfl) (by kernel_rfl) (by kernel_rfl) (by kernel_rfl) (by kernel_rfl) (by kernel_rfl) h_
      · exact Go.Proofs.cell_of_shapedOpen_int hshape (g:=0) (t:=3) (zero:=#[.int .i64 0]) (of_decide_eq_true (by kernel_rfl)) (by kernel_rfl) rfl (by kernel_rfl) (by kernel_rfl) Tryd.underlying3
      · have h_:=laidMet.filter (fun x=>x.1 == "strconv.ErrSyntax") hL_
        have e_:(Rows.fnExactActReadRow.laid).filter (fun x=>x.1 == "strconv.ErrSyntax")=[("strconv.ErrSyntax", Rows.laid_strconv_ErrSyntax)]:=by kernel_rfl
        rw [e_] at h_
        have hg_:Tryd.prog.globalNamed "strconv.ErrSyntax" = some 1:=by kernel_rfl
        obtain ⟨a0,s0,hv0,-,-,-⟩:=laid_sentinel h_ hg_ (ti:=59) (by kernel_rfl) Tryd.underlying59 rowE Tryd.underlying100 Tryd.underlying102 rfl rfl Tryd.underlying9 (by kernel_rfl) (by kernel_rfl)
        exact ⟨_,by have h0:=World.var?_cell hg_ hv0 0;simpa using h0,.inr ⟨_,_,rfl⟩⟩
      · have h_:=laidMet.filter (fun x=>x.1 == "strconv.ErrRange") hL_
        have e_:(Rows.fnExactActReadRow.laid).filter (fun x=>x.1 == "strconv.ErrRange")=[("strconv.ErrRange", Rows.laid_strconv_ErrRange)]:=by kernel_rfl
        rw [e_] at h_
        have hg_:Tryd.prog.globalNamed "strconv.ErrRange" = some 2:=by kernel_rfl
        obtain ⟨a0,s0,hv0,-,-,-⟩:=laid_sentinel h_ hg_ (ti:=59) (by kernel_rfl) Tryd.underlying59 rowE Tryd.underlying100 Tryd.underlying102 rfl rfl Tryd.underlying9 (by kernel_rfl) (by kernel_rfl)
        exact ⟨_,by have h0:=World.var?_cell hg_ hv0 0;simpa using h0,.inr ⟨_,_,rfl⟩⟩
    clear hA0 hval0 hsz0 hsz
    obtain ⟨k,hp⟩:=Pure.FnExactActRead x0 w0
    refine (P.Y21.calls k x0 true W  hp htab_).mono fun e W' ⟨he,bel0⟩=>?_
    have bel:Below W.heap.size W W':=bel0
    subst he
    exact ⟨_,rfl,_,_,_,[],_,[],hW',trodAll_mk1 (shut_bool Tryd.underlying4 _),(trodAll_cons_mk (shut_string Tryd.underlying9 y0) trodAll_mk0),rfl,bel.frame _,fun h=>by cases h⟩
  refine returnsInHanded_of_calls (C:=Tryd.checked) own started (by kernel_rfl)
    (ChangeSpec.witness_shaped (enc:=enc) (C:=Tryd.checked) (X:=fun w _=>laidMetH Tryd.prog Rows.fnExactActReadRow.laid w) false (World.laidAll Tryd.prog os Rows.fnExactActReadRow.laid) #[.string ByteArray.empty] 8 (World.laidAll_os _ _ _) (World.shaped_of_ZipB (by kernel_rfl) (by kernel_rfl)) (by kernel_rfl) (by kernel_rfl) (by kernel_rfl)
      (by rw [MakeChecks.laidMetH_plain _ _ _ (by kernel_rfl)];exact laidMet_laidAll _ (by kernel_rfl) (by kernel_rfl))) ?_
  intro w tape i _ hsh _ hok hpre _
  obtain ⟨_,_,_,fn',hfn',_,_,_,_,hval⟩:=hok
  have e:fn'=Tryd.f3:=Option.some.inj (hfn'.symm.trans Tryd.func3)
  subst e
  obtain ⟨⟨⟨ds,gs,before,hw,hc⟩,hx⟩,hz⟩:=hpre
  have hw':=DataW.Whole.of_heap (w':=w.forCall tape i) (by rfl) hw
  refine (contract (w.forCall tape i) w.heap.size i.args ds gs before hval hw' (hz.weights hw) (laidMetH.of_heap (show (w.forCall tape i).memory.heap=(w.forCall tape i).heap from rfl) hx) hsh).mono fun e W' ⟨v,he,hp⟩=>?_
  subst he
  exact ChangeSpec.post_blind hp
theorem over:Rows.fnExactActReadRow.holds Tryd.pinned (OpenSpec.ofChange Rows.fnExactActReadSpec) :=
  OpenClaim.holds_of_wide 3 Tryd.f3 rfl rfl rfl rfl rfl rfl rfl ⟨rfl,rfl,rfl,rfl,rfl⟩ rfl rfl rfl rfl rfl (by kernel_rfl) Tryd.func3 (by kernel_rfl)
    (of_decide_eq_true (by kernel_rfl)) (by unfold Func.isWrapper;first | (rw [if_pos (by decide +kernel)];kernel_rfl) | (rw [if_neg (by decide +kernel)];exact ⟨rfl,rfl⟩))
    (fun os started H enc _=>lifted os started H enc)
theorem proved:Rows.FnExactActReadSaid:=over
theorem card:Rows.FnExactActReadCardSaid :=
  Claim7.holds_tied_plain_at .later [] [.data,.data,.data,.data,.sentinel,.sentinel,.pinned] true (true, "a55e4beea45c31d641695ead975115f46faff5eaae37c86190a9fe843d7eb73e") true proved (fun _ h=>by cases h) (by kernel_rfl) (fun _ h=>by cases h) fnExactActRead_row_tie rfl ⟨rfl,rfl⟩ (by kernel_rfl) rfl
    (fun f fn hf hfn=>by
      obtain rfl:f=3:=Option.some.inj ((show Tryd.prog.funcNamed Rows.fnExactActReadRow.func=some 3 by kernel_rfl).symm.trans hf) |>.symm
      obtain rfl:fn=Tryd.f3:=(Option.some.inj (Tryd.func3.symm.trans hfn)).symm
      exact ⟨by kernel_rfl,fun j t ht=>by
        rw [Tryd.params3] at ht
        have h_:t ∈ [9]:=by have:=Array.mem_of_getElem? ht;simpa using this
        have hs_:∀ x ∈ [9],Tryd.prog.wantsStandIn x=false:=by
          intro x hx
          simp only [List.mem_cons,List.not_mem_nil,or_false] at hx
          rcases hx with rfl <;> kernel_rfl
        exact hs_ t h_⟩)
    (by kernel_rfl)
#print axioms card
#print axioms proved
end Go.Proofs.YtkaojnmgflaldaaDoor.fnExactActRead
namespace Go.Proofs.YtkaojnmgflaldaaDoor
/-- The row, under a short name, for the claim. -/
theorem fnExactActRead_holds:Rows.FnExactActReadCardSaid:=fnExactActRead.card
end Go.Proofs.YtkaojnmgflaldaaDoor
