/- For every answer the program's SayText and the reference's return the same text, and the answer stays as it was. No condition. (Part 2 of 2: written by programs of this workplace and by hand, merged.) -/
import Derived.Test.YtffjlmmlclpcnaaDoorRows
import Derived.Test.YtffjlmmlclpcnaaDoorMFnExactSayTexta
import Derived.Test.YtffjlmmlclpcnaaDoorTie
import Derived.Test.YtffjlmmlclpcnaaDoorCards
import Derived.WalkKit
import Derived.ProofKit
import Derived.OpenShut
import Derived.ShutString
import Derived.ChangeOld
import Derived.Below
import Derived.SizedLaws
import Derived.LaidMore
import Derived.Lay
import Derived.LaidOnce
import Derived.SevenTiedAt
import Derived.LaidLaws
import Derived.ChangeSame
import Derived.ChangeVars
import Derived.JoinedOf
import Derived.LaidSub
import Derived.Lib.LaidTab
set_option linter.unusedVariables false
set_option linter.unusedSimpArgs false
set_option maxHeartbeats 8000000
set_option maxRecDepth 100000

namespace Go.Proofs.YtffjlmmlclpcnaaDoor.fnExactSayText
open Go.ChangeShapes Go.WideShapes Go.ChangeAt Go.RowKit Go.Proofs.YtffjlmmlclpcnaaDoor.P Go.Proofs.YtffjlmmlclpcnaaDoor.RO Go.Proofs.YtffjlmmlclpcnaaDoor.Open Go.Proofs.YtffjlmmlclpcnaaDoorW.PrintWords
open Go.ChangeMaps (open_string shut_string)
set_option linter.unusedVariables false
theorem own:ownKnob Tryd.prog.godebug=none:=by kernel_rfl
theorem laidOut:laidOutB Tryd.prog=true:=by kernel_rfl
set_option maxRecDepth 100000 in
theorem lifted (os:Os) (started:os.Started) (H:Type) (enc:TypeId × Value→H) :
    ReturnsInHanded {} Tryd.checked os 4 .any (fun w args=>(Rows.fnExactSayTextSpec.pre enc Tryd.prog Tryd.f4 Rows.fnExactSayTextRow.domain false w args∧laidMetH Tryd.prog Rows.fnExactSayTextRow.laid w)∧sizedMet enc Tryd.prog Tryd.f4 (OpenSpec.ofChange Rows.fnExactSayTextSpec) false w args) (Rows.fnExactSayTextSpec.post enc Tryd.prog Tryd.f4 false true false false):=by
  refine returnsInHanded_of_change_and (C:=Tryd.checked) (X:=fun w _=>laidMetH Tryd.prog Rows.fnExactSayTextRow.laid w) (fun _ _ _ hh h=>h.of_heap hh) own started (by kernel_rfl) Tryd.func4
    (ChangeSpec.witness_shaped (enc:=enc) (C:=Tryd.checked) (X:=fun w _=>laidMetH Tryd.prog Rows.fnExactSayTextRow.laid w) false (World.laidAll Tryd.prog os Rows.fnExactSayTextRow.laid) #[.agg #[.int .i64 0,.string ByteArray.empty,.bool false,.int .i64 0,.slice none 0 0,.string ByteArray.empty,.int .i64 0,.int .i64 0,.slice none 0 0]] 8 (World.laidAll_os _ _ _) (World.shaped_of_ZipB (by kernel_rfl) (by kernel_rfl)) (by kernel_rfl) (by kernel_rfl) (by kernel_rfl)
      (by rw [MakeChecks.laidMetH_plain _ _ _ (by kernel_rfl)];exact laidMet_laidAll _ (by kernel_rfl) (by kernel_rfl))) ?_
  intro W base args ds gs before hval0 hW hcnd hsz0 hL_ _
  have hsz:(DataW.weightsEach Tryd.prog (Tryd.f4.params.toList ++ Rows.fnExactSayTextSpec.plain.varTypes Tryd.prog) (ds ++ gs)).all (· ≤ reachBytes)=true:=hsz0
  have hval:∀ (j:Nat) t v,Tryd.f4.params[j]? = some t→args[j]? = some v→Value.okWide Tryd.prog W .any base t v:=hval0
  have hW':=hW
  obtain ⟨p,q,hA0,hV,rfl,hfz,hnd⟩:=hW
  have hA:DataW.TrodAll enc Tryd.prog W 0 (fun _=>true) true Tryd.f4.params.toList args.toList ds p:=hA0
  rw [Tryd.params4] at hA hval hsz
  obtain ⟨v0,vs0,d0,ds0,p0,q0,hargs,rfl,rfl,h0,r0⟩:=trodAll_cons hA
  obtain ⟨rfl,rfl,rfl⟩:=trodAll_nil r0
  obtain rfl:args=#[v0]:=by cases args;simp_all
  obtain ⟨rfl,rfl⟩:=trodVars_none hV
  have k0:=h0
  have lt0:∀ x ∈ p0,x.block<W.heap.size:=by obtain ⟨m,hm⟩:=k0;exact DataW.trod_lt m _ _ _ hm
  obtain ⟨cs0,rfl,_⟩:=okWide_struct Tryd.underlying34 (hval 0 34 v0 rfl rfl)
  obtain ⟨fuel0,hf0⟩:=h0
  obtain ⟨x0,hk0,w0⟩:=op_T34 hf0
  obtain ⟨A0_4,c0_4,A0_8,c0_8,hcs0,hl0_4,hr0_4,hl0_8,hr0_8⟩:=k34_open hk0
  obtain rfl:cs0=#[.int .i64 x0.f0,.string x0.f1,.bool x0.f2,.int .i64 x0.f3,.slice A0_4 x0.f4.length c0_4,.string x0.f5,.int .i64 x0.f6.f0,.int .i64 x0.f6.f1,.slice A0_8 x0.f7.length c0_8]:=Array.toList_inj.1 hcs0
  have htab_:P.Tab_ W:=by
    rw [MakeChecks.laidMetH_plain _ _ _ (by kernel_rfl)] at hL_
    have h_:=laidMet.filter (fun x=>x.1 == "internal/strconv.uint64pow10") hL_
    have e_:(Rows.fnExactSayTextRow.laid).filter (fun x=>x.1 == "internal/strconv.uint64pow10")=[("internal/strconv.uint64pow10", Lib.tabData .u64 Lib.pow10Tab)]:=by kernel_rfl
    rw [e_] at h_
    exact Lib.tabIs_of_head (g:=1) (t:=99) (e:=89) (n:=20) (by kernel_rfl) (by kernel_rfl) (by kernel_rfl) (by kernel_rfl) (by kernel_rfl) (by kernel_rfl) h_
  clear hA0 hval0 hsz0 hsz
  obtain ⟨k,hp⟩:=Pure.FnExactSayText x0 w0
  refine (P.Y10.calls k x0.f0 x0.f1 x0.f2 x0.f3 _ _ x0.f4 x0.f5 x0.f6.f0 x0.f6.f1 _ _ x0.f7 true W hr0_4 hl0_4 hr0_8 hl0_8 hp htab_).mono fun e W' ⟨he,bel0⟩=>?_
  have bel:Below W.heap.size W W':=bel0
  subst he
  exact ⟨_,rfl,_,_,_,[],_,[],hW',trodAll_mk1 (shut_bool Tryd.underlying4 _),(trodAll_cons_mk (Below.trod laidOut (by kernel_rfl) (of_decide_eq_true (by kernel_rfl)) k0 bel lt0) trodAll_mk0),rfl,bel.frame _,fun h=>by cases h⟩
theorem over:Rows.fnExactSayTextRow.holds Tryd.pinned (OpenSpec.ofChange Rows.fnExactSayTextSpec) :=
  OpenClaim.holds_of_wide 4 Tryd.f4 rfl rfl rfl rfl rfl rfl rfl ⟨rfl,rfl,rfl,rfl,rfl⟩ rfl rfl rfl rfl rfl (by kernel_rfl) Tryd.func4 (by kernel_rfl)
    (of_decide_eq_true (by kernel_rfl)) (by unfold Func.isWrapper;first | (rw [if_pos (by decide +kernel)];kernel_rfl) | (rw [if_neg (by decide +kernel)];exact ⟨rfl,rfl⟩))
    (fun os started H enc _=>lifted os started H enc)
theorem proved:Rows.FnExactSayTextSaid:=over
theorem card:Rows.FnExactSayTextCardSaid :=
  Claim7.holds_tied_plain_at .later [] [.data,.data,.data] true (true, "5845a95d3e8eed014b4d3e9917a0a8492f1694fc26f86ed7c471d54a3939147d") false proved (fun _ h=>by cases h) (by kernel_rfl) (fun _ h=>by cases h) fnExactSayText_row_tie rfl ⟨rfl,rfl⟩ (by kernel_rfl) rfl
    (fun f fn hf hfn=>by
      obtain rfl:f=4:=Option.some.inj ((show Tryd.prog.funcNamed Rows.fnExactSayTextRow.func=some 4 by kernel_rfl).symm.trans hf) |>.symm
      obtain rfl:fn=Tryd.f4:=(Option.some.inj (Tryd.func4.symm.trans hfn)).symm
      exact ⟨by kernel_rfl,fun j t ht=>by
        rw [Tryd.params4] at ht
        have h_:t ∈ [34]:=by have:=Array.mem_of_getElem? ht;simpa using this
        have hs_:∀ x ∈ [34],Tryd.prog.wantsStandIn x=false:=by
          intro x hx
          simp only [List.mem_cons,List.not_mem_nil,or_false] at hx
          rcases hx with rfl <;> kernel_rfl
        exact hs_ t h_⟩)
    (by kernel_rfl)
#print axioms card
#print axioms proved
end Go.Proofs.YtffjlmmlclpcnaaDoor.fnExactSayText
namespace Go.Proofs.YtffjlmmlclpcnaaDoor
/-- The row, under a short name, for the claim. -/
theorem fnExactSayText_holds:Rows.FnExactSayTextCardSaid:=fnExactSayText.card
end Go.Proofs.YtffjlmmlclpcnaaDoor
