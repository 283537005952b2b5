/- The Go function laws.FnExactKernelPlay returns true for every input and leaves its arguments as they were: the row's statement and its tied card. -/
import Derived.Test.YthcmmoibpgcgaaaGreatDoorLKFnExactKernelPlay
import Derived.Test.YthcmmoibpgcgaaaGreatDoorTie
import Derived.Test.YthcmmoibpgcgaaaGreatDoorCards
import Derived.ProofKit
import Derived.OpenShut
import Derived.ShutString
import Derived.ChangeOld
import Derived.Below
import Derived.LaidMore
import Derived.Lay
import Derived.SevenTiedAt
set_option linter.all false
namespace Go.Proofs.YthcmmoibpgcgaaaGreatDoor.fnExactKernelPlay
open Go.ChangeShapes Go.WideShapes Go.ChangeAt Go.RowKit
set_option linter.unusedVariables false

theorem own:ownKnob Tryz.prog.godebug=none:=by kernel_rfl
theorem laidOut:laidOutB Tryz.prog=true:=by kernel_rfl

set_option maxRecDepth 100000 in
theorem lifted (os:Os) (started:os.Started) (H:Type) (enc:TypeId×Value→H) :
    ReturnsInHanded {} Tryz.checked os 9 .any (fun w args=>(Rows.fnExactKernelPlaySpec.pre enc Tryz.prog Tryz.f9 Rows.fnExactKernelPlayRow.domain false w args∧laidMetH Tryz.prog Rows.fnExactKernelPlayRow.laid w)∧sizedMet enc Tryz.prog Tryz.f9 (OpenSpec.ofChange Rows.fnExactKernelPlaySpec) false w args)
      (Rows.fnExactKernelPlaySpec.post enc Tryz.prog Tryz.f9 false true false false):=by
  refine returnsInHanded_of_change_and (C:=Tryz.checked) (X:=fun w _=>laidMetH Tryz.prog Rows.fnExactKernelPlayRow.laid w) (fun _ _ _ hh h=>h.of_heap hh) own started (by kernel_rfl) Tryz.func9
    (ChangeSpec.witness_shaped (enc:=enc) (C:=Tryz.checked) (os:=os) (X:=fun w _=>laidMetH Tryz.prog Rows.fnExactKernelPlayRow.laid w) false (World.laidAll Tryz.prog os Rows.fnExactKernelPlayRow.laid) #[.agg #[.slice none 0 0,.slice none 0 0,.slice none 0 0,.slice none 0 0],.slice none 0 0] 8 (World.laidAll_os _ _ _)
      (World.shaped_of_ZipB (by kernel_rfl) (by kernel_rfl)) (by kernel_rfl) (by kernel_rfl) (by kernel_rfl)
      (by rw [MakeChecks.laidMetH_plain _ _ _ (by kernel_rfl)];exact laidMet_laidAll _ (by kernel_rfl) (by kernel_rfl))) ?_
  intro W base args ds gs before hval0 hW _ _ hL _;have hval:∀ (j:Nat) t v,Tryz.f9.params[j]?=some t→args[j]?=some v→Value.okWide Tryz.prog W .any base t v:=hval0;have hW':=hW;obtain ⟨pp,q,hA0,hV,rfl,hfz,hnd⟩:=hW;have hA:DataW.TrodAll enc Tryz.prog W 0 (fun _=>true) true Tryz.f9.params.toList args.toList ds pp:=hA0;rw [Tryz.params9] at hA hval;obtain ⟨v0,vs0,d0,ds0,p0,q0,hargs,rfl,rfl,h0,r0⟩:=trodAll_cons hA;obtain ⟨v1,vs1,d1,ds1,p1,q1,rfl,rfl,rfl,h1,r1⟩:=trodAll_cons r0;obtain ⟨rfl,rfl,rfl⟩:=trodAll_nil r1;obtain rfl:args=#[v0,v1]:=by cases args;simp_all
  obtain ⟨rfl,rfl⟩:=trodVars_none hV;obtain ⟨cs0,rfl,_⟩:=okWide_struct Tryz.underlying65 (hval 0 65 v0 rfl rfl);have k0:=h0;have lt0:∀ x ∈ p0,x.block<W.heap.size:=by obtain ⟨m,hm⟩:=k0;exact DataW.trod_lt m _ _ _ hm
  obtain ⟨vm,vi,ve,vc,k,hcs,hR,hS⟩:∃ vm vi ve vc k,cs0.toList=[vm,vi,ve,vc]∧Uw W vm vi ve vc k∧CZ k:=by
    obtain ⟨fuel,hf⟩:=h0;exact Rq hf
  obtain rfl:cs0=#[vm,vi,ve,vc]:=by
    obtain ⟨l⟩:=cs0;simp only at hcs;rw [hcs]
  obtain ⟨a1,len1,cap1,rfl⟩:=okWide_slice Tryz.underlying73 (hval 1 73 v1 rfl rfl);have k1:=h1;have lt1:∀ x ∈ p1,x.block<W.heap.size:=by obtain ⟨m,hm⟩:=k1;exact DataW.trod_lt m _ _ _ hm
  obtain ⟨cs,hL,hC⟩:∃ cs:List Kx.Call,RW Lc 6 W (.slice a1 len1 cap1) cs∧∀ c ∈ cs,c.name.size≤9223372036854775807∧c.c≤9223372036854775807:=by
    obtain ⟨fuel,hf⟩:=h1;exact rd_calls hf
  clear hA0 hval0;refine (show Calls Tryz.prog 9 _ W (Yes W) from FnExactKernelPlay_c k cs _ _ _ _ _ W hR hS hL hC).mono fun e W' ⟨he,bel⟩=>?_
  subst he;exact ⟨_,rfl,_,_,_,[],_,[],hW',trodAll_mk1 (shut_bool Tryz.underlying4 _),(trodAll_cons_mk (Below.trod laidOut (by kernel_rfl) (of_decide_eq_true (by kernel_rfl)) k0 bel lt0) (trodAll_cons_mk (Below.trod laidOut (by kernel_rfl) (of_decide_eq_true (by kernel_rfl)) k1 bel lt1) trodAll_mk0)),rfl,bel.frame _,fun h=>by cases h⟩

set_option maxHeartbeats 8000000 in
theorem holds:Rows.FnExactKernelPlaySaid:=
  OpenClaim.holds_of_wide 9 Tryz.f9 rfl rfl rfl rfl rfl rfl rfl ⟨rfl,rfl,rfl,rfl,rfl⟩ rfl rfl rfl rfl rfl (by kernel_rfl) Tryz.func9 (by unfold joinedFacts;simp only [Bool.and_eq_true];and_intros;all_goals as_aux_lemma=>kernel_rfl)
    (of_decide_eq_true (by as_aux_lemma=>kernel_rfl)) (by unfold Func.isWrapper;first | (rw [if_pos (by decide +kernel)];kernel_rfl) | (rw [if_neg (by decide +kernel)];exact ⟨rfl,rfl⟩))
    (fun os started H enc _=>lifted os started H enc)
set_option maxHeartbeats 8000000 in
theorem proved:Rows.FnExactKernelPlayCardSaid:=
  Claim7.holds_tied_plain_at .later [] [.data,.pinned] true (true,"82bea42e1cace3a70ebde2eee3de67f590f16ed99d39bf12c2f3ab0902a46a48") false holds (fun _ h=>by cases h) (by as_aux_lemma=>kernel_rfl) (fun _ h=>by cases h) fnExactKernelPlay_row_tie rfl ⟨rfl,rfl⟩ (by as_aux_lemma=>kernel_rfl) rfl
    (fun f fn hf hfn=>by
      obtain rfl:f=9:=Option.some.inj ((show Tryz.prog.funcNamed "loop.example/exopager/laws.FnExactKernelPlay"=some 9 by as_aux_lemma=>kernel_rfl).symm.trans hf) |>.symm;obtain rfl:fn=Tryz.f9:=(Option.some.inj (Tryz.func9.symm.trans hfn)).symm;exact ⟨by as_aux_lemma=>kernel_rfl,fun j t ht=>by
        rw [Tryz.params9] at ht;have hm:t ∈ [65,73]:=by simpa using Array.mem_of_getElem? ht
        have hall:([65,73].all fun u=>!Tryz.prog.wantsStandIn u)=true:=by as_aux_lemma=>kernel_rfl
        exact (show Tryz.prog.wantsStandIn t=false by simpa using List.all_eq_true.1 hall t hm)⟩)
    (by as_aux_lemma=>kernel_rfl)
#print axioms proved
end Go.Proofs.YthcmmoibpgcgaaaGreatDoor.fnExactKernelPlay
