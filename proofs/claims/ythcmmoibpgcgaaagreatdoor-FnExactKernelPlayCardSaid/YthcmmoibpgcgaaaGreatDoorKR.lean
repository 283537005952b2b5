/- KZ, KRJ, KRJ2, joined. -/
import Derived.Test.YthcmmoibpgcgaaaGreatDoorKY
set_option linter.all false
namespace Go.Proofs.YthcmmoibpgcgaaaGreatDoor
open Go.RowKit
section
variable {P:Program} {ops:Array Oper} {Q:Exit->Act->World->Prop} {md:Region.Mode} {S:World->Prop} {oi:Oper} {v:Value} {fuel:Nat} {listed l':Array Bool} {a a':Act} {w:World}
theorem nH (h:wpAnyH P md ops Q S fuel l' a' w)
  (hl:listed=l':=by (try simp only [List.setIfInBounds_toArray,List.set_cons_zero,List.set_cons_succ]);exact rfl)
  (ha:a=a':=by (try simp only [Act.put,List.getElem_toArray,List.getElem_cons_zero,List.getElem_cons_succ,List.setIfInBounds_toArray,List.set_cons_zero,List.set_cons_succ]);exact rfl):wpAnyH P md ops Q S fuel listed a w:=by
 subst hl ha;exact h
theorem tH (i:Nat) (h:wpAnyH P md ops Q S fuel l' a' w) (hS:S w:=by assumption) (hi:ops[i]?=some oi:=by rfl)
  (hs:(Region.noSelect ops&&Region.free md ops listed i&&(Region.ready md ops listed).contains i)=true:=by kernel_rfl)
  (hQ:∀ c a w,Q (.panic c) (a.put oi.dst v) w->Q (.panic c) a w:=by exact fun _ _ _ h=>h) (hw:Region.wanted oi (yielded ops a.tmps)=true:=by rfl)
  (hy:∀ w,S w->(execOp a.eval oi).run P w=.ok (.value v) w:=by intro w hSw;(try dsimp only at hSw);go_simp;try with_reducible rfl)
  (hl:listed.setIfInBounds i true=l':=by (try simp only [List.setIfInBounds_toArray,List.set_cons_zero,List.set_cons_succ]);exact rfl)
  (ha:a.put oi.dst v=a':=by (try simp only [Act.put,List.getElem_toArray,List.getElem_cons_zero,List.getElem_cons_succ,List.setIfInBounds_toArray,List.set_cons_zero,List.set_cons_succ]);exact rfl) :
  wpAnyH P md ops Q S (fuel+1) listed a w:=by
 subst hl ha;simp only [Bool.and_eq_true] at hs;exact wpAnyH_take hi hs.1.1 hs.1.2 hs.2 hQ (Or.inl ⟨hw,hy⟩) hS h
theorem rH (i:Nat) (h:∀ K':Act->World->Prop,Shut (∀ a w,S w->(S w->wpAnyH P md ops Q S fuel (listed.setIfInBounds i true) a w)->K' a w)->if Region.wanted oi (yielded ops a.tmps)=true then Oper.wp P oi a w K' Q else K' (a.put oi.dst undef) w)
  (hi:ops[i]?=some oi:=by rfl) (hr:Region.ready md ops listed=[i]:=by kernel_rfl):wpAnyH P md ops Q S (fuel+1) listed a w:=
 wpAnyH_ready (rs:=[i]) hr (by simp) (AllReadyH.cons hi h AllReadyH.nil)
theorem ahk (i:Nat) (h:∀ K':Act->World->Prop,Shut (∀ a w,S w->(S w->wpAnyH P md ops Q S fuel (listed.setIfInBounds i true) a w)->K' a w)->Oper.wp P oi a w K' Q)
  (hi:ops[i]?=some oi:=by rfl) (hr:Region.ready md ops listed=[i]:=by kernel_rfl) (hw:Region.wanted oi (yielded ops a.tmps)=true:=by rfl):wpAnyH P md ops Q S (fuel+1) listed a w:=
 rH i (fun K hK=>by rw [if_pos hw];exact h K hK) hi hr
theorem afS {K:Act->World->Prop} (hK:Shut (∀ a w,S w->(S w->wpAnyH P md ops Q S fuel listed a w)->K a w)) (h:S w->wpAnyH P md ops Q S fuel l' a' w) (hS:S w:=by first | assumption | go_keep)
  (hl:listed=l':=by (try simp only [List.setIfInBounds_toArray,List.set_cons_zero,List.set_cons_succ]);exact rfl)
  (ha:a=a':=by (try simp only [Act.put,List.getElem_toArray,List.getElem_cons_zero,List.getElem_cons_succ,List.setIfInBounds_toArray,List.set_cons_zero,List.set_cons_succ]);exact rfl):K a w:=
 hK.out _ _ hS (fun hs=>nH (h hs) hl ha)
theorem afT {id:Nat} (h:S w.drew->wpAnyH P .any ops Q S ops.size (Array.replicate ops.size false) a w.drew) (hm:P.follows .mixedOrders=true:=by kernel_rfl) (hS:S w.drew:=by first | assumption | go_keep):(Code.region id ops true).wp P Q a w:=
 wp_region_held_drew hm hS h
theorem afi {id B:Nat} {w0:World} (_ik:TI (∀ W,Below B w0 W->S W)) (h:S w.drew->wpAnyH P .any ops Q S ops.size (Array.replicate ops.size false) a w.drew) (hm:P.follows .mixedOrders=true:=by kernel_rfl) (hS:S w.drew:=by first | assumption | go_keep):(Code.region id ops true).wp P Q a w:=
 wp_region_held_drew hm hS h
def Wd (b:Bool) (A B:Prop):Prop:=Bool.rec B A b
theorem Wd.or {b:Bool} {A B:Prop} (h:Wd b A B):(b=true/\A)\/(b=false/\B):=by
 cases b with
 | true=>exact .inl ⟨rfl,h⟩
 | false=>exact .inr ⟨rfl,h⟩
structure Stp (P:Program) (md:Region.Mode) (ops:Array Oper) (Q:Exit->Act->World->Prop) (S:World->Prop) (i:Nat) (oi:Oper) (v:Value) (listed l':Array Bool) (a a':Act):Prop where
 hi:ops[i]?=some oi
 hs:(Region.noSelect ops&&Region.free md ops listed i&&(Region.ready md ops listed).contains i)=true
 hQ:∀ c a w,Q (.panic c) (a.put oi.dst v) w->Q (.panic c) a w
 hw:Wd (Region.wanted oi (yielded ops a.tmps)) (∀ w,S w->(execOp a.eval oi).run P w=.ok (.value v) w) (v=undef)
 hl:listed.setIfInBounds i true=l'
 ha:a.put oi.dst v=a'
theorem stp {i:Nat} (hi:ops[i]?=some oi:=by rfl) (hs:(Region.noSelect ops&&Region.free md ops listed i&&(Region.ready md ops listed).contains i)=true:=by kernel_rfl)
  (hQ:∀ c a w,Q (.panic c) (a.put oi.dst v) w->Q (.panic c) a w:=by exact fun _ _ _ h=>h)
  (hw:Wd (Region.wanted oi (yielded ops a.tmps)) (∀ w,S w->(execOp a.eval oi).run P w=.ok (.value v) w) (v=undef):=by first | exact (rfl:_=undef) | (intro w hSw;(try dsimp only at hSw);go_simp;try with_reducible rfl))
  (hl:listed.setIfInBounds i true=l':=by (try simp only [List.setIfInBounds_toArray,List.set_cons_zero,List.set_cons_succ]);exact rfl)
  (ha:a.put oi.dst v=a':=by (try simp only [Act.put,List.getElem_toArray,List.getElem_cons_zero,List.getElem_cons_succ,List.setIfInBounds_toArray,List.set_cons_zero,List.set_cons_succ]);exact rfl):Stp P md ops Q S i oi v listed l' a a':=⟨hi,hs,hQ,hw,hl,ha⟩
theorem Stp.go {i:Nat} (h:Stp P md ops Q S i oi v listed l' a a') (hS:S w) (hn:wpAnyH P md ops Q S fuel l' a' w):wpAnyH P md ops Q S (fuel+1) listed a w:=by
 obtain ⟨hi,hs,hQ,hw,rfl,rfl⟩:=h;simp only [Bool.and_eq_true] at hs;exact wpAnyH_take hi hs.1.1 hs.1.2 hs.2 hQ hw.or hS hn
theorem afU {l1 l2:Array Bool} {a1 a2:Act} {o1 o2:Oper} {v1 v2:Value} (i:Nat) (h:wpAnyH P md ops Q S fuel l2 a2 w) (hS:S w:=by assumption) (h1:Stp P md ops Q S i o1 v1 listed l1 a a1:=by exact stp) (h2:Stp P md ops Q S (i+1) o2 v2 l1 l2 a1 a2:=by exact stp):wpAnyH P md ops Q S (fuel+2) listed a w:=h1.go hS (h2.go hS (h))
theorem afV {l1 l2 l3 l4:Array Bool} {a1 a2 a3 a4:Act} {o1 o2 o3 o4:Oper} {v1 v2 v3 v4:Value} (i:Nat) (h:wpAnyH P md ops Q S fuel l4 a4 w) (hS:S w:=by assumption) (h1:Stp P md ops Q S i o1 v1 listed l1 a a1:=by exact stp) (h2:Stp P md ops Q S (i+1) o2 v2 l1 l2 a1 a2:=by exact stp) (h3:Stp P md ops Q S (i+2) o3 v3 l2 l3 a2 a3:=by exact stp) (h4:Stp P md ops Q S (i+3) o4 v4 l3 l4 a3 a4:=by exact stp):wpAnyH P md ops Q S (fuel+4) listed a w:=h1.go hS (h2.go hS (h3.go hS (h4.go hS (h))))
theorem afW {l1 l2 l3 l4 l5 l6 l7 l8:Array Bool} {a1 a2 a3 a4 a5 a6 a7 a8:Act} {o1 o2 o3 o4 o5 o6 o7 o8:Oper} {v1 v2 v3 v4 v5 v6 v7 v8:Value} (i:Nat) (h:wpAnyH P md ops Q S fuel l8 a8 w) (hS:S w:=by assumption) (h1:Stp P md ops Q S i o1 v1 listed l1 a a1:=by exact stp) (h2:Stp P md ops Q S (i+1) o2 v2 l1 l2 a1 a2:=by exact stp) (h3:Stp P md ops Q S (i+2) o3 v3 l2 l3 a2 a3:=by exact stp) (h4:Stp P md ops Q S (i+3) o4 v4 l3 l4 a3 a4:=by exact stp) (h5:Stp P md ops Q S (i+4) o5 v5 l4 l5 a4 a5:=by exact stp) (h6:Stp P md ops Q S (i+5) o6 v6 l5 l6 a5 a6:=by exact stp) (h7:Stp P md ops Q S (i+6) o7 v7 l6 l7 a6 a7:=by exact stp) (h8:Stp P md ops Q S (i+7) o8 v8 l7 l8 a7 a8:=by exact stp):wpAnyH P md ops Q S (fuel+8) listed a w:=h1.go hS (h2.go hS (h3.go hS (h4.go hS (h5.go hS (h6.go hS (h7.go hS (h8.go hS (h))))))))
end
end Go.Proofs.YthcmmoibpgcgaaaGreatDoor
namespace Go.Proofs.YthcmmoibpgcgaaaGreatDoor
open Go
def yJ (l:Array Bool):Nat:=l.toList.count false
theorem getD_toList (l:Array Bool) (i:Nat) (d:Bool):l.getD i d=l.toList.getD i d:=by
 simp [List.getD_eq_getElem?_getD,Array.getD_eq_getD_getElem?]
theorem qg:∀ (l:List Bool) (i:Nat),l.getD i true=false->(l.set i true).count false+1=l.count false
 | [],i,h=>by simp at h
 | b :: l,0,h=>by
  have:b=false:=by simpa using h
  subst this;simp
 | b :: l,i+1,h=>by
  have:=qg l i (by simpa using h)
  simp only [List.set_cons_succ,List.count_cons];omega
theorem AX {l:Array Bool} {i:Nat} (h:l.getD i true=false):yJ (l.setIfInBounds i true)+1=yJ l:=by
 unfold yJ;rw [Array.toList_setIfInBounds];exact qg _ _ (by rw [<-getD_toList];exact h)
theorem Iu {l:Array Bool} {i:Nat} (h:l.getD i true=false):yJ l≠0:=by
 have:=AX h;omega
def vY (md:Region.Mode) (ops:Array Oper):Bool:=
 (List.range ops.size).all fun i=>((ops[i]?).map (·.after.all fun e=>!Region.binds md e||decide (e.on<i))).getD true
def waitsFor (md:Region.Mode) (o:Oper) (j:Nat):Bool:=o.after.any fun e=>Region.binds md e&&e.on==j
def aT (a:Act) (l:List (Nat×Value)):Act:=l.foldl (fun a p=>a.put (some p.1) p.2) a
section
variable {P:Program} {ops:Array Oper} {Q:Exit->Act->World->Prop} {md:Region.Mode} {S:World->Prop} {J:Array Bool->Act->World->Prop}
def vZ (P:Program) (md:Region.Mode) (ops:Array Oper) (Q:Exit->Act->World->Prop) (J:Array Bool->Act->World->Prop) (rs:List Nat):Prop:=
 ∀ i ∈ rs,∀ l a w,i ∈ Region.ready md ops l->J l a w->wpOp P ops Q i (fun a' w'=>J (l.setIfInBounds i true) a' w') a w
theorem vZ.nil:vZ P md ops Q J []:=fun _ h=>by cases h
theorem vZ.cons {i:Nat} {o:Oper} {rs:List Nat} (ho:ops[i]?=some o)
  (h:∀ l a w,J l a w->l.getD i true=false->(∀ j,waitsFor md o j=true->l.getD j false=true)->∀ K':Act->World->Prop,Shut (∀ a w,J (l.setIfInBounds i true) a w->K' a w)->if Region.wanted o (yielded ops a.tmps)=true then Oper.wp P o a w K' Q else K' (a.put o.dst undef) w)
  (hs:vZ P md ops Q J rs):vZ P md ops Q J (i :: rs):=fun j hj=>by
 rcases List.mem_cons.1 hj with rfl | hj
 ·intro l a w hr hJ;obtain ⟨h0,o',ho',hd⟩:=mem_ready.1 hr;obtain rfl:o=o':=by rw [ho] at ho';exact Option.some.inj ho'
  refine wpOp_step ho (fun K' hK=>h l a w hJ h0 (fun j hw=>?_) K' (fun a w hj=>hK a w hj))
  unfold waitsFor at hw;obtain ⟨e,he,hb⟩:=Array.any_eq_true'.1 hw;simp only [Bool.and_eq_true,beq_iff_eq] at hb;rw [<-hb.2];exact hd e he hb.1
 exact hs j hj
def wpAnyL (P:Program) (md:Region.Mode) (ops:Array Oper) (Q:Exit->Act->World->Prop) (S:World->Prop) (xs:List Nat):Nat->Array Bool->Act->World->Prop
 | 0,listed,a,w=>Region.ready md ops listed=[]/\Q .normal a w
 | fuel+1,listed,a,w =>
  (Region.ready md ops listed=[]->Q .normal a w) /\
  ∀ i ∈ Region.ready md ops listed,wpOp P ops Q i (fun a' w'=>((xs.any fun x=>(listed.setIfInBounds i true).getD x false)=true\/S w')/\wpAnyL P md ops Q S xs fuel (listed.setIfInBounds i true) a' w') a w
theorem yK {xs:List Nat}:∀ (fuel:Nat) (listed:Array Bool) (a:Act) (w:World),wpAnyL P md ops Q S xs fuel listed a w->wpAny P md ops Q fuel listed a w
 | 0,_,_,_,h=>h
 | fuel+1,_,_,_,h=>⟨h.1,fun i hi=>wpOp_mono (fun a' w' h'=>yK fuel _ a' w' h'.2) (h.2 i hi)⟩
theorem uu {xs:List Nat} {id:Nat} {a:Act} {w:World} (hm:P.follows .mixedOrders=true) (hS:S w.drew)
  (h:S w.drew->wpAnyL P .any ops Q S xs ops.size (Array.replicate ops.size false) a w.drew):(Code.region id ops true).wp P Q a w:=
 wp_region_any hm (yK _ _ _ _ (h hS))
theorem DZ {xs:List Nat} {i x:Nat} (h:xs.contains i=false) (hx:x ∈ xs):i≠x:=fun e=>by subst e;rw [show xs.contains i=true by simpa using hx] at h;cases h
theorem D5 {xs:List Nat} {listed:Array Bool} {i:Nat} (_hr:i ∈ Region.ready md ops listed) (h:(xs.any fun x=>listed.getD x false)=true):(xs.any fun x=>(listed.setIfInBounds i true).getD x false)=true:=by
 obtain ⟨x,hx,ht⟩:=List.any_eq_true.1 h;exact List.any_eq_true.2 ⟨x,hx,getD_set_true ht⟩
theorem wpAnyL_first {xs:List Nat} {i:Nat} {oi:Oper} {v:Value} (hi:ops[i]?=some oi) (hsel:∀ (j:Nat) (o:Oper) cs b,ops[j]?=some o->o.op≠.select cs b)
  (hQ:∀ c a w,Q (.panic c) (a.put oi.dst v) w->Q (.panic c) a w) (hni:xs.contains i=false) (hx:(xs.all fun x=>((ops[x]?).map fun o=>waitsFor md o i).getD false)=true) :
  ∀ (fuel:Nat) (listed:Array Bool) (a:Act) (w:World),
   (∀ j oj,ops[j]?=some oj->j≠i->listed.getD j true=false->(∀ e ∈ oj.after,Region.binds md e=true->e.on≠i)->oi.apart ops oj=true) ->
   (xs.all fun x=>!listed.getD x false)=true->i ∈ Region.ready md ops listed->YieldsIf P ops S oi v a->S w ->
   wpAnyL P md ops Q S xs fuel (listed.setIfInBounds i true) (a.put oi.dst v) w->wpAnyL P md ops Q S xs (fuel+1) listed a w:=by
 intro fuel
 induction fuel with
 | zero =>
  intro listed a w _ _ hr hy hS H;refine ⟨fun h=>(by rw [h] at hr;cases hr),fun j hj=>?_⟩
  by_cases hji:j=i
  ·subst hji;exact hy.wpOp hi hS ⟨.inr hS,H⟩
  have:=ready_mono hj hji
  rw [H.1] at this
  cases this
 | succ fuel ih =>
  intro listed a w hfree hxl hr hy hS H;refine ⟨fun h=>(by rw [h] at hr;cases hr),fun j hj=>?_⟩
  by_cases hji:j=i
  ·subst hji;exact hy.wpOp hi hS ⟨.inr hS,H⟩
  have h1:=H.2 j (ready_mono hj hji);obtain ⟨hjun,oj,hoj,hall⟩:=mem_ready.1 hj;have hnot:∀ e ∈ oj.after,Region.binds md e=true->e.on≠i:=fun e he hb heq=>by
   have h1:=hall e he hb;have h0:=(mem_ready.1 hr).1;rw [heq] at h1;rcases Nat.lt_or_ge i listed.size with h' | h'
   ·simp [h'] at h0 h1;rw [h0] at h1;cases h1
   simp [Array.getElem?_eq_none h'] at h1
  have YC:xs.contains j=false:=by
   cases hc:xs.contains j with
   | false=>rfl
   | true =>
    have h2:=List.all_eq_true.1 hx j (by simpa using hc);rw [hoj] at h2;simp only [Option.map_some,Option.getD_some] at h2;unfold waitsFor at h2;obtain ⟨e,he,hb⟩:=Array.any_eq_true'.1 h2;simp only [Bool.and_eq_true,beq_iff_eq] at hb;exact absurd hb.2 (hnot e he hb.1)
  have h2:=wpOp_putIf hoj (hfree j oj hoj hji hjun hnot) (fun cs b=>hsel i oi cs b hi) (fun cs b=>hsel j oj cs b hoj) hQ hy h1;have hfree':∀ k ok,ops[k]?=some ok->k≠i->(listed.setIfInBounds j true).getD k true=false ->
    (∀ e ∈ ok.after,Region.binds md e=true->e.on≠i)->oi.apart ops ok=true:=fun k ok hk hki hun hno=>by
   refine hfree k ok hk hki ?_ hno
   by_cases hjk:j=k
   ·subst hjk;exact hjun
   rw [getD_set_ne true hjk] at hun;exact hun
  refine wpOp_mono (fun a' w' h3=>?_) h2;have hnl:(xs.all fun x=>!(listed.setIfInBounds j true).getD x false)=true:=by
   refine List.all_eq_true.2 fun x hxm=>?_
   have h5:=List.all_eq_true.1 hxl x hxm;have hxj:j≠x:=fun e=>by subst e;rw [show xs.contains j=true by simpa using hxm] at YC;cases YC
   rw [getD_set_ne false hxj];exact h5
  have hS':S w':=by
   rcases h3.2.1 with h4 | h4
   ·exfalso
    obtain ⟨x,hxm,hxt⟩:=List.any_eq_true.1 h4;have h5:=List.all_eq_true.1 hnl x hxm;rw [Array.setIfInBounds_comm _ _ (fun e=>hji e.symm),getD_set_ne false (DZ hni hxm)] at hxt;rw [hxt] at h5;cases h5
   exact h4
  refine ⟨.inr hS',ih (listed.setIfInBounds j true) a' w' hfree' hnl (ready_mono hr (Ne.symm hji)) h3.1 hS' ?_⟩;rw [Array.setIfInBounds_comm _ _ hji];exact h3.2.2
theorem rV {xs:List Nat} {i:Nat} {oi:Oper} {v:Value} (hi:ops[i]?=some oi) (hsel:∀ (j:Nat) (o:Oper) cs b,ops[j]?=some o->o.op≠.select cs b)
  (hQ:∀ c a w,Q (.panic c) (a.put oi.dst v) w->Q (.panic c) a w) (hni:xs.contains i=false) :
  ∀ (fuel:Nat) (listed:Array Bool) (a:Act) (w:World),
   (∀ j oj,ops[j]?=some oj->j≠i->listed.getD j true=false->(∀ e ∈ oj.after,Region.binds md e=true->e.on≠i)->oi.apart ops oj=true) ->
   i ∈ Region.ready md ops listed->YieldsIf P ops (fun _=>True) oi v a->((xs.any fun x=>listed.getD x false)=true\/S w) ->
   wpAnyL P md ops Q S xs fuel (listed.setIfInBounds i true) (a.put oi.dst v) w->wpAnyL P md ops Q S xs (fuel+1) listed a w:=by
 intro fuel
 induction fuel with
 | zero =>
  intro listed a w _ hr hy hS H;refine ⟨fun h=>(by rw [h] at hr;cases hr),fun j hj=>?_⟩
  by_cases hji:j=i
  ·subst hji;exact hy.wpOp hi trivial ⟨hS.imp (D5 hr) id,H⟩
  have:=ready_mono hj hji
  rw [H.1] at this
  cases this
 | succ fuel ih =>
  intro listed a w hfree hr hy hS H;refine ⟨fun h=>(by rw [h] at hr;cases hr),fun j hj=>?_⟩
  by_cases hji:j=i
  ·subst hji;exact hy.wpOp hi trivial ⟨hS.imp (D5 hr) id,H⟩
  have h1:=H.2 j (ready_mono hj hji);obtain ⟨hjun,oj,hoj,hall⟩:=mem_ready.1 hj;have hnot:∀ e ∈ oj.after,Region.binds md e=true->e.on≠i:=fun e he hb heq=>by
   have h1:=hall e he hb;have h0:=(mem_ready.1 hr).1;rw [heq] at h1;rcases Nat.lt_or_ge i listed.size with h' | h'
   ·simp [h'] at h0 h1;rw [h0] at h1;cases h1
   simp [Array.getElem?_eq_none h'] at h1
  have h2:=wpOp_putIf hoj (hfree j oj hoj hji hjun hnot) (fun cs b=>hsel i oi cs b hi) (fun cs b=>hsel j oj cs b hoj) hQ hy h1;have hfree':∀ k ok,ops[k]?=some ok->k≠i->(listed.setIfInBounds j true).getD k true=false ->
    (∀ e ∈ ok.after,Region.binds md e=true->e.on≠i)->oi.apart ops ok=true:=fun k ok hk hki hun hno=>by
   refine hfree k ok hk hki ?_ hno
   by_cases hjk:j=k
   ·subst hjk;exact hjun
   rw [getD_set_ne true hjk] at hun;exact hun
  refine wpOp_mono (fun a' w' h3=>?_) h2;have hD:(xs.any fun x=>(listed.setIfInBounds j true).getD x false)=true\/S w':=h3.2.1.imp (fun h4=>by
   obtain ⟨x,hxm,hxt⟩:=List.any_eq_true.1 h4;rw [Array.setIfInBounds_comm _ _ (fun e=>hji e.symm),getD_set_ne false (DZ hni hxm)] at hxt;exact List.any_eq_true.2 ⟨x,hxm,hxt⟩) id
  refine ⟨hD,ih (listed.setIfInBounds j true) a' w' hfree' (ready_mono hr (Ne.symm hji)) h3.1 hD ?_⟩;rw [Array.setIfInBounds_comm _ _ hji];exact h3.2.2
theorem tkL {xs:List Nat} (i:Nat) {oi:Oper} {v:Value} {fuel:Nat} {listed:Array Bool} {a:Act} {w:World} (hS:S w) (hi:ops[i]?=some oi)
  (hs:(Region.noSelect ops&&Region.free md ops listed i&&(Region.ready md ops listed).contains i&&!xs.contains i&&xs.all fun x=>((ops[x]?).map fun o=>waitsFor md o i).getD false&&!listed.getD x false)=true)
  (hQ:∀ c a w,Q (.panic c) (a.put oi.dst v) w->Q (.panic c) a w) (hw:Region.wanted oi (yielded ops a.tmps)=true) (hy:∀ w,S w->(execOp a.eval oi).run P w=.ok (.value v) w)
  (h:wpAnyL P md ops Q S xs fuel (listed.setIfInBounds i true) (a.put oi.dst v) w):wpAnyL P md ops Q S xs (fuel+1) listed a w:=by
 simp only [Bool.and_eq_true] at hs;obtain ⟨⟨⟨⟨h1,h2⟩,h3⟩,h0⟩,h4⟩:=hs;have h5:=fun x (hx:x ∈ xs)=>(Bool.and_eq_true _ _).mp (List.all_eq_true.1 h4 x hx)
 exact wpAnyL_first hi (Region.noSelect_spec h1) hQ (by simpa using h0) (List.all_eq_true.2 fun x hx=>(h5 x hx).1) fuel listed a w (Region.free_spec hi h2) (List.all_eq_true.2 fun x hx=>(h5 x hx).2) (by simpa using h3) (.inl ⟨hw,hy⟩) hS h
theorem tkP {xs:List Nat} (i:Nat) {oi:Oper} {v:Value} {fuel:Nat} {listed:Array Bool} {a:Act} {w:World} (hS:(xs.any fun x=>listed.getD x false)=true\/S w) (hi:ops[i]?=some oi)
  (hs:(Region.noSelect ops&&Region.free md ops listed i&&(Region.ready md ops listed).contains i&&!xs.contains i)=true)
  (hQ:∀ c a w,Q (.panic c) (a.put oi.dst v) w->Q (.panic c) a w) (hw:Region.wanted oi (yielded ops a.tmps)=true) (hy:∀ w,(execOp a.eval oi).run P w=.ok (.value v) w)
  (h:wpAnyL P md ops Q S xs fuel (listed.setIfInBounds i true) (a.put oi.dst v) w):wpAnyL P md ops Q S xs (fuel+1) listed a w:=by
 simp only [Bool.and_eq_true] at hs;obtain ⟨⟨⟨h1,h2⟩,h3⟩,h0⟩:=hs;exact rV hi (Region.noSelect_spec h1) hQ (by simpa using h0) fuel listed a w (Region.free_spec hi h2) (by simpa using h3) (.inl ⟨hw,fun w _=>hy w⟩) hS h
theorem skL {xs:List Nat} (i:Nat) {oi:Oper} {fuel:Nat} {listed:Array Bool} {a:Act} {w:World} (hS:(xs.any fun x=>listed.getD x false)=true\/S w) (hi:ops[i]?=some oi)
  (hs:(Region.noSelect ops&&Region.free md ops listed i&&(Region.ready md ops listed).contains i&&!xs.contains i)=true)
  (hQ:∀ c a w,Q (.panic c) (a.put oi.dst undef) w->Q (.panic c) a w) (hw:Region.wanted oi (yielded ops a.tmps)=false)
  (h:wpAnyL P md ops Q S xs fuel (listed.setIfInBounds i true) (a.put oi.dst undef) w):wpAnyL P md ops Q S xs (fuel+1) listed a w:=by
 simp only [Bool.and_eq_true] at hs;obtain ⟨⟨⟨h1,h2⟩,h3⟩,h0⟩:=hs;exact rV hi (Region.noSelect_spec h1) hQ (by simpa using h0) fuel listed a w (Region.free_spec hi h2) (by simpa using h3) (.inr ⟨hw,rfl⟩) hS h
theorem lI {xs:List Nat} (i:Nat) {o:Oper} {fuel:Nat} {listed:Array Bool} {a:Act} {w:World} (hr:Region.ready md ops listed=[i]) (ho:ops[i]?=some o)
  (h:∀ K':Act->World->Prop,Shut (∀ a w,S w->(S w->wpAnyL P md ops Q S xs fuel (listed.setIfInBounds i true) a w)->K' a w)->if Region.wanted o (yielded ops a.tmps)=true then Oper.wp P o a w K' Q else K' (a.put o.dst undef) w) :
  wpAnyL P md ops Q S xs (fuel+1) listed a w:=by
 refine ⟨fun h0=>(by rw [hr] at h0;cases h0),fun j hj=>?_⟩
 rw [hr] at hj;obtain rfl:j=i:=by simpa using hj
 exact wpOp_step ho (fun K' hK=>h K' (fun a w hS hW=>hK a w ⟨.inr hS,hW hS⟩))
theorem lN {xs:List Nat} (i:Nat) {o:Oper} {fuel:Nat} {listed:Array Bool} {a:Act} {w:World} (hx:(xs.any fun x=>(listed.setIfInBounds i true).getD x false)=true) (hr:Region.ready md ops listed=[i]) (ho:ops[i]?=some o)
  (h:∀ K':Act->World->Prop,Shut (∀ a w,wpAnyL P md ops Q S xs fuel (listed.setIfInBounds i true) a w->K' a w)->if Region.wanted o (yielded ops a.tmps)=true then Oper.wp P o a w K' Q else K' (a.put o.dst undef) w) :
  wpAnyL P md ops Q S xs (fuel+1) listed a w:=by
 refine ⟨fun h0=>(by rw [hr] at h0;cases h0),fun j hj=>?_⟩
 rw [hr] at hj;obtain rfl:j=i:=by simpa using hj
 exact wpOp_step ho (fun K' hK=>h K' (fun a w hW=>hK a w ⟨.inl hx,hW⟩))
theorem gY {xs:List Nat} {listed:Array Bool} {a:Act} {w:World} (hr:Region.ready md ops listed=[]) (h:Q .normal a w) :
  ∀ fuel,wpAnyL P md ops Q S xs fuel listed a w
 | 0=>⟨hr,h⟩
 | _+1=>⟨fun _=>h,by rw [hr];simp⟩
theorem J8 {l:Array Bool} (hac:vY md ops=true) (hsz:l.size=ops.size) (h:Region.ready md ops l=[]):∀ i,i<ops.size->l.getD i true=true:=by
 intro i
 induction i using Nat.strongRecOn with
 | _ i ih =>
  intro hi
  cases hg:l.getD i true with
  | true=>rfl
  | false =>
   exfalso
   have:i ∈ Region.ready md ops l:=by
    refine mem_ready.2 ⟨hg,ops[i],Array.getElem?_eq_getElem hi,fun e he hb=>?_⟩
    unfold vY at hac;have h1:=List.all_eq_true.1 hac i (List.mem_range.2 hi);rw [Array.getElem?_eq_getElem hi] at h1;simp only [Option.map_some,Option.getD_some] at h1;have h2:=Array.all_eq_true'.1 h1 e he;simp only [Bool.or_eq_true,Bool.not_eq_true',decide_eq_true_eq,hb] at h2;have h3:e.on<i:=by rcases h2 with h2 | h2;exact absurd h2 (by decide);exact h2
    have h4:=ih e.on h3 (by omega);have h5:e.on<l.size:=by omega
    simp only [Array.getD,h5,dite_true] at h4 ⊢;exact h4
   rw [h] at this
   cases this
theorem qC {J:Act->Array Bool->Act->World->Prop} {rs ts xs:List Nat} {a0:Act} (hac:vY md ops=true)
  (hcov:((List.range ops.size).all fun i=>rs.contains i||ts.contains i||xs.contains i)=true) (hxs:(xs.all fun x=>rs.all fun r=>((ops[x]?).map fun o=>waitsFor md o r).getD false)=true)
  (hts:∀ l a w,J a0 l a w->l.size=ops.size/\(ts.all fun i=>l.getD i false)=true) (hJ:∀ l a w,J a0 l a w->S w)
  (hend:∀ l a w,J a0 l a w->(∀ i,rs.contains i=true->l.getD i true=true)->S w->wpAnyL P md ops Q S xs (yJ l) l a w) (hs:vZ P md ops Q (J a0) rs) :
  ∀ (n:Nat) (l:Array Bool) (w:World),yJ l=n->J a0 l a0 w->wpAnyL P md ops Q S xs n l a0 w:=by
 suffices H:∀ (n:Nat) (l:Array Bool) (a:Act) (w:World),yJ l=n->J a0 l a w->wpAnyL P md ops Q S xs n l a w from fun n l w=>H n l a0 w
 intro n
 induction n with
 | zero =>
  intro l a w hn hj;have hall:∀ i,rs.contains i=true->l.getD i true=true:=fun i _=>by
   cases hg:l.getD i true with
   | true=>rfl
   | false=>exact absurd hn (Iu hg)
  have:=hend l a w hj hall (hJ _ _ _ hj)
  rw [hn] at this;exact this
 | succ n ih =>
  intro l a w hn hj
  by_cases hall:∀ i,rs.contains i=true->l.getD i true=true
  ·have:=hend l a w hj hall (hJ _ _ _ hj)
   rw [hn] at this;exact this
  have hex:∃ r,rs.contains r=true/\l.getD r true=false:=by
   refine Classical.byContradiction fun hno=>hall fun i hi=>?_
   cases hg:l.getD i true with
   | true=>rfl
   | false=>exact absurd ⟨i,hi,hg⟩ hno
  obtain ⟨r,hr,hr0⟩:=hex;obtain ⟨hz,ht⟩:=hts l a w hj;have hrl:r<l.size:=by
   refine Nat.lt_of_not_le fun h=>?_
   rw [Array.getD,dif_neg (by omega)] at hr0
   cases hr0
  refine ⟨fun h0=>?_,fun i hi=>?_⟩
  ·have:=J8 hac hz h0 r (by omega)
   rw [hr0] at this;cases this
  obtain ⟨h0,o,ho,hd⟩:=mem_ready.1 hi;have hi1:i<ops.size:=(Array.getElem?_eq_some_iff.1 ho).1;have hc:=List.all_eq_true.1 hcov i (List.mem_range.2 hi1);have hmem:i ∈ rs:=by
   simp only [Bool.or_eq_true] at hc;rcases hc with (hc | hc) | hc
   ·simpa using hc
   ·exfalso
    have h1:=List.all_eq_true.1 ht i (by simpa using hc);have h5:i<l.size:=by omega
    simp only [Array.getD,h5,dite_true] at h0 h1;rw [h0] at h1;cases h1
   exfalso
   have h1:=List.all_eq_true.1 (List.all_eq_true.1 hxs i (by simpa using hc)) r (by simpa using hr);rw [ho] at h1;simp only [Option.map_some,Option.getD_some] at h1;unfold waitsFor at h1;obtain ⟨e,he,hb⟩:=Array.any_eq_true'.1 h1;simp only [Bool.and_eq_true,beq_iff_eq] at hb;have h2:=hd e he hb.1;rw [hb.2] at h2;simp only [Array.getD,hrl,dite_true] at h2 hr0;rw [hr0] at h2;cases h2
  refine wpOp_mono (fun a' w' hj'=>⟨.inr (hJ _ _ _ hj'),ih _ a' w' ?_ hj'⟩) (hs i hmem l a w hi hj)
  have:=AX h0
  omega
end
theorem Zh {a b:Act} (h:a=b:=by simp only [aT,List.foldl,Act.put,List.getElem_toArray,List.getElem_cons_zero,List.getElem_cons_succ,List.setIfInBounds_toArray,List.set_cons_zero,List.set_cons_succ]):a=b:=h
end Go.Proofs.YthcmmoibpgcgaaaGreatDoor
namespace Go.Proofs.YthcmmoibpgcgaaaGreatDoor
open Go Go.RowKit
section
variable {P:Program} {ops:Array Oper} {Q:Exit->Act->World->Prop} {md:Region.Mode} {S:World->Prop} {oi:Oper} {v:Value} {fuel:Nat} {listed l':Array Bool} {a a':Act} {w:World} {xs:List Nat}
theorem nL (h:wpAnyL P md ops Q S xs fuel l' a' w)
  (hl:listed=l':=by (try simp only [List.setIfInBounds_toArray,List.set_cons_zero,List.set_cons_succ]);exact rfl)
  (ha:a=a':=by (try simp only [Act.put,List.getElem_toArray,List.getElem_cons_zero,List.getElem_cons_succ,List.setIfInBounds_toArray,List.set_cons_zero,List.set_cons_succ]);exact rfl):wpAnyL P md ops Q S xs fuel listed a w:=by
 subst hl ha;exact h
theorem tL (i:Nat) (h:wpAnyL P md ops Q S xs fuel l' a' w) (hS:S w:=by assumption) (hi:ops[i]?=some oi:=by rfl)
  (hs:(Region.noSelect ops&&Region.free md ops listed i&&(Region.ready md ops listed).contains i&&!xs.contains i&&xs.all fun x=>((ops[x]?).map fun o=>waitsFor md o i).getD false&&!listed.getD x false)=true:=by kernel_rfl)
  (hQ:∀ c a w,Q (.panic c) (a.put oi.dst v) w->Q (.panic c) a w:=by exact fun _ _ _ h=>h) (hw:Region.wanted oi (yielded ops a.tmps)=true:=by rfl)
  (hy:∀ w,S w->(execOp a.eval oi).run P w=.ok (.value v) w:=by intro w hSw;(try dsimp only at hSw);go_simp;try with_reducible rfl)
  (hl:listed.setIfInBounds i true=l':=by (try simp only [List.setIfInBounds_toArray,List.set_cons_zero,List.set_cons_succ]);exact rfl)
  (ha:a.put oi.dst v=a':=by (try simp only [Act.put,List.getElem_toArray,List.getElem_cons_zero,List.getElem_cons_succ,List.setIfInBounds_toArray,List.set_cons_zero,List.set_cons_succ]);exact rfl) :
  wpAnyL P md ops Q S xs (fuel+1) listed a w:=by
 subst hl ha;exact tkL i hS hi hs hQ hw hy h
theorem tP (i:Nat) (h:wpAnyL P md ops Q S xs fuel l' a' w) (hS:(xs.any fun x=>listed.getD x false)=true\/S w:=by first | exact .inr (by assumption) | exact .inl (by kernel_rfl)) (hi:ops[i]?=some oi:=by rfl)
  (hs:(Region.noSelect ops&&Region.free md ops listed i&&(Region.ready md ops listed).contains i&&!xs.contains i)=true:=by kernel_rfl)
  (hQ:∀ c a w,Q (.panic c) (a.put oi.dst v) w->Q (.panic c) a w:=by exact fun _ _ _ h=>h) (hw:Region.wanted oi (yielded ops a.tmps)=true:=by rfl)
  (hy:∀ w,(execOp a.eval oi).run P w=.ok (.value v) w:=by intro w;go_simp;try with_reducible rfl)
  (hl:listed.setIfInBounds i true=l':=by (try simp only [List.setIfInBounds_toArray,List.set_cons_zero,List.set_cons_succ]);exact rfl)
  (ha:a.put oi.dst v=a':=by (try simp only [Act.put,List.getElem_toArray,List.getElem_cons_zero,List.getElem_cons_succ,List.setIfInBounds_toArray,List.set_cons_zero,List.set_cons_succ]);exact rfl) :
  wpAnyL P md ops Q S xs (fuel+1) listed a w:=by
 subst hl ha;exact tkP i hS hi hs hQ hw hy h
theorem sL (i:Nat) (h:wpAnyL P md ops Q S xs fuel l' a' w) (hS:(xs.any fun x=>listed.getD x false)=true\/S w:=by first | exact .inr (by assumption) | exact .inl (by kernel_rfl)) (hi:ops[i]?=some oi:=by rfl)
  (hs:(Region.noSelect ops&&Region.free md ops listed i&&(Region.ready md ops listed).contains i&&!xs.contains i)=true:=by kernel_rfl)
  (hQ:∀ c a w,Q (.panic c) (a.put oi.dst undef) w->Q (.panic c) a w:=by exact fun _ _ _ h=>h) (hw:Region.wanted oi (yielded ops a.tmps)=false:=by rfl)
  (hl:listed.setIfInBounds i true=l':=by (try simp only [List.setIfInBounds_toArray,List.set_cons_zero,List.set_cons_succ]);exact rfl)
  (ha:a.put oi.dst undef=a':=by (try simp only [Act.put,List.getElem_toArray,List.getElem_cons_zero,List.getElem_cons_succ,List.setIfInBounds_toArray,List.set_cons_zero,List.set_cons_succ]);exact rfl) :
  wpAnyL P md ops Q S xs (fuel+1) listed a w:=by
 subst hl ha;exact skL i hS hi hs hQ hw h
theorem aho (i:Nat) (h:∀ K':Act->World->Prop,Shut (∀ a w,S w->(S w->wpAnyL P md ops Q S xs fuel (listed.setIfInBounds i true) a w)->K' a w)->Oper.wp P oi a w K' Q)
  (hi:ops[i]?=some oi:=by rfl) (hr:Region.ready md ops listed=[i]:=by kernel_rfl) (hw:Region.wanted oi (yielded ops a.tmps)=true:=by rfl):wpAnyL P md ops Q S xs (fuel+1) listed a w:=
 lI i hr hi (fun K hK=>by rw [if_pos hw];exact h K hK)
theorem ahp (i:Nat) (h:∀ K':Act->World->Prop,Shut (∀ a w,wpAnyL P md ops Q S xs fuel (listed.setIfInBounds i true) a w->K' a w)->Oper.wp P oi a w K' Q)
  (hi:ops[i]?=some oi:=by rfl) (hr:Region.ready md ops listed=[i]:=by kernel_rfl) (hx:(xs.any fun x=>(listed.setIfInBounds i true).getD x false)=true:=by rfl) (hw:Region.wanted oi (yielded ops a.tmps)=true:=by rfl):wpAnyL P md ops Q S xs (fuel+1) listed a w:=
 lN i hx hr hi (fun K hK=>by rw [if_pos hw];exact h K hK)
theorem afX {K:Act->World->Prop} (hK:Shut (∀ a w,S w->(S w->wpAnyL P md ops Q S xs fuel listed a w)->K a w)) (hS:S w) (h:S w->wpAnyL P md ops Q S xs fuel l' a' w)
  (hl:listed=l':=by (try simp only [List.setIfInBounds_toArray,List.set_cons_zero,List.set_cons_succ]);exact rfl)
  (ha:a=a':=by (try simp only [Act.put,List.getElem_toArray,List.getElem_cons_zero,List.getElem_cons_succ,List.setIfInBounds_toArray,List.set_cons_zero,List.set_cons_succ]);exact rfl):K a w:=
 hK.out _ _ hS (fun hs=>nL (h hs) hl ha)
theorem afY {id B:Nat} {w0:World} (ik:TI (∀ W,Below B w0 W->S W)) (hb:Below B w0 w.drew) (h:S w.drew->wpAnyL P .any ops Q S xs ops.size (Array.replicate ops.size false) a w.drew) (hm:P.follows .mixedOrders=true:=by kernel_rfl):(Code.region id ops true).wp P Q a w:=
 uu hm (ik.o _ hb) h
end
section
variable {P:Program} {ops:Array Oper} {Q:Exit->Act->World->Prop} {md:Region.Mode} {S:World->Prop}
theorem MV {xs:List Nat} (i j:Nat) {o o':Oper} {fuel:Nat} {listed:Array Bool} {a:Act} {w:World} (hr:Region.ready md ops listed=[i,j]) (ho:ops[i]?=some o) (ho':ops[j]?=some o')
  (h:∀ K':Act->World->Prop,Shut (∀ a w,S w->(S w->wpAnyL P md ops Q S xs fuel (listed.setIfInBounds i true) a w)->K' a w)->if Region.wanted o (yielded ops a.tmps)=true then Oper.wp P o a w K' Q else K' (a.put o.dst undef) w)
  (h':∀ K':Act->World->Prop,Shut (∀ a w,S w->(S w->wpAnyL P md ops Q S xs fuel (listed.setIfInBounds j true) a w)->K' a w)->if Region.wanted o' (yielded ops a.tmps)=true then Oper.wp P o' a w K' Q else K' (a.put o'.dst undef) w) :
  wpAnyL P md ops Q S xs (fuel+1) listed a w:=by
 refine ⟨fun h0=>(by rw [hr] at h0;cases h0),fun k hk=>?_⟩
 rw [hr] at hk;have hk':k=i\/k=j:=by simpa using hk
 rcases hk' with rfl | rfl
 ·exact wpOp_step ho (fun K' hK=>h K' (fun a w hS hW=>hK a w ⟨.inr hS,hW hS⟩))
 exact wpOp_step ho' (fun K' hK=>h' K' (fun a w hS hW=>hK a w ⟨.inr hS,hW hS⟩))
end
end Go.Proofs.YthcmmoibpgcgaaaGreatDoor
