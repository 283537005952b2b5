/- The law FnStoreRefused: what may not be written is not written. -/
import Derived.Test.YtmmjmckajcfffaaGreatDoorKMn
set_option linter.all false
set_option maxHeartbeats 8000000
set_option maxRecDepth 100000
open Go.Proofs.Tryz
open Int renaming eq_ofNat_of_zero_le->A1
open Go.Value renaming slice->A0
namespace Go.Proofs.YtmmjmckajcfffaaGreatDoor
open Go.RowKit Kx
variable {ops:Array Oper}{fuel:Nat}{listed:Array Bool}
theorem mJ {m:List (List Int)} {r ad:Nat} {f a:Int} {b:Bool} (h:Kx.walk m r ad=((f,a,b),0)):∃ (f' a':Nat),f=f'/\a=a'/\f'<12/\a'<4:=by
 unfold Kx.walk at h;split at h
 ·simp at h
 split at h
 ·simp at h
 rename_i t c he f' d he2
 simp only [Prod.mk.injEq] at h;obtain ⟨⟨h1,h2,_⟩,_⟩:=h;exact ⟨f',ad % 4,h1.symm,h2.symm,Kx.dU he2,Nat.mod_lt _ (by decide)⟩
theorem ac' {P:Program} {Q:Exit->Act->World->Prop} {md:Region.Mode} {S:World->Prop} {o1:Oper} {v1:Value} {l1:Array Bool} {a a1:Act} {w:World} (i:Nat) (h:wpAnyH P md ops Q S fuel l1 a1 w) (hS:S w:=by assumption) (h1:Stp P md ops Q S i o1 v1 listed l1 a a1:=by exact stp):wpAnyH P md ops Q S (fuel+1) listed a w:=h1.go hS h
theorem ae' {P:Program} {Q:Exit->Act->World->Prop} {md:Region.Mode} {S:World->Prop} {oi oj:Oper} {a:Act} {w:World} (i j:Nat)
  (h:∀ K':Act->World->Prop,Shut (∀ a w,S w->(S w->wpAnyH P md ops Q S fuel (listed.setIfInBounds i true) a w)->K' a w)->Oper.wp P oi a w K' Q)
  (h':∀ K':Act->World->Prop,Shut (∀ a w,S w->(S w->wpAnyH P md ops Q S fuel (listed.setIfInBounds j true) a w)->K' a w)->Oper.wp P oj a w K' Q)
  (hi:ops[i]?=some oi:=by rfl) (hj:ops[j]?=some oj:=by rfl) (hr:Region.ready md ops listed=[i,j]:=by kernel_rfl) (hw:Region.wanted oi (yielded ops a.tmps)=true:=by rfl) (hw':Region.wanted oj (yielded ops a.tmps)=true:=by rfl) :
  wpAnyH P md ops Q S (fuel+1) listed a w:=
 wpAnyH_ready (rs:=[i,j]) hr (by simp) (AllReadyH.cons hi (fun K hK=>by rw [if_pos hw];exact h K hK) (AllReadyH.cons hj (fun K hK=>by rw [if_pos hw'];exact h' K hK) AllReadyH.nil))
theorem oG (k:Kx.Kernel) (env ad:Int) (vm vi ve vc:Value) (w:World) (h:RK w vm vi ve vc k) (hs:iQ k) :
  Calls prog 31 #[.agg #[vm,vi,ve,vc],I_ env,I_ ad] w fun e w'=>e=.returned (.tuple #[I_ (Kx.sees k env ad).1,.bool (Kx.sees k env ad).2])/\Below w.heap.size w w':=by
 obtain ⟨w0,aC⟩:∃ w0,w.alloc (.cells #[vm,vi,ve,vc] 28)=w0:=⟨_,rfl⟩;have B0:=af (show Below w.heap.size w w0 from aC ▸ dm);have X0:=af (show BX w0 w.heap.size 28 [vm,vi,ve,vc] from (aC ▸ BX.new w _ _:BX w0 _ _ _));have HK:=af (h.below B0.o);obtain ⟨_,am,cm,rfl,_,_⟩:=h.m.len;obtain ⟨_,ae,ce,rfl,_,_⟩:=h.e.len;have HV:=af (show Kx.sees k env ad=if !az k||!Kx.bK env 0 2||!Kx.bK ad 0 63||decide ((au k.ah env.toNat).root<0) then (0,false)
 else match Kx.walk k.mem (au k.ah env.toNat).root.toNat ad.toNat with
  | ((f,a,_),c)=>if c=0 then (Kx.word k.mem f.toNat a.toNat,true) else (0,false) from rfl)
 have HC:=af (mX k _ vi _ vc w0 HK.o hs);obtain ⟨ans,aS⟩:∃ r,Kx.sees k env ad=r:=⟨_,rfl⟩;have pI:=af aS;rw [aS] at HV;obtain ⟨k0,k1,k2,k3⟩:=X0.o.c4;clear h hs aS;go_enter func31,ntmps31;go_wp2_with fail;clear aC;refine HC.o.mono ?_;rintro e w1 ⟨rfl,hb⟩;replace B0:=af (B0.o.trans (hb.mono B0.o.size));replace X0:=af (X0.o.below hb);replace HK:=af (HK.o.below hb);clear hb HC k0 k1 k2 k3
 cases hv:az k with
 | false =>
  have HF:=af (show ans=(0,false) by rw [HV.o,hv];rfl);clear hv HV;go_wp2_with fail;go_ret2;exact ⟨by rw [pI.o,HF.o];rfl,B0.o⟩
 | true =>
  have V1:=af hv;clear hv;go_wp2_with fail;refine (BR _ _).mono ?_;rintro e w' ⟨rfl,rfl⟩
  cases hv:Kx.bK env 0 2 with
  | false =>
   have HF:=af (show ans=(0,false) by rw [HV.o,hv];simp);clear hv HV;go_wp2_with fail;go_ret2;exact ⟨by rw [pI.o,HF.o];rfl,B0.o⟩
  | true =>
   have V2:=af hv;clear hv;go_wp2_with fail;refine (qI _ _).mono ?_;rintro e w' ⟨rfl,rfl⟩
   cases hv:Kx.bK ad 0 63 with
   | false =>
    have HF:=af (show ans=(0,false) by rw [HV.o,hv];simp);clear hv HV;go_wp2_with fail;go_ret2;exact ⟨by rw [pI.o,HF.o];rfl,B0.o⟩
   | true =>
    obtain ⟨h0,h2⟩:=Kx.ay.1 V2.o;obtain ⟨n,rfl⟩:=A1 h0;obtain ⟨dL,dZ⟩:=Kx.ay.1 hv;obtain ⟨a,rfl⟩:=A1 dL;obtain ⟨dH,jI,dh,ed,h3,dM⟩:=aI V1.o;have dQ:n<3:=by omega
    have mW:=af (dM n dQ);have zG:=af (show ans=if (au k.ah n).root<0 then (0,false) else match Kx.walk k.mem (au k.ah n).root.toNat a with | ((f,a,_),c)=>if c=0 then (Kx.word k.mem f.toNat a.toNat,true) else (0,false) by rw [HV.o,V1.o,V2.o,hv];simp)
    have MJ:(n:Int)<(k.ah.length:Int):=by omega
    obtain ⟨b,off,cap,u,ev,dI,_,g2,_⟩:=HK.o.e.at (k:=n) (by omega);obtain ⟨rfl,_,rfl⟩:=Za ev;clear ev;obtain ⟨k0,k1,k2,k3⟩:=X0.o.c4;have HM:=af HK.o.m;have kG:=af dH;have Ha:=af (show a<64 by omega);clear hv HV h0 dH jI dh ed h3 dM dQ h2 dL dZ V1 V2;generalize (au k.ah n).root=r at g2 zG mW;have G2:=af g2
    by_cases hr:r<0
    ·have HF:=af (show ans=(0,false) by rw [zG.o,if_pos hr]);go_wp2_with fail;go_ret2;exact ⟨by rw [pI.o,HF.o];rfl,B0.o⟩
    obtain ⟨R,rfl⟩:=A1 (show 0<=r by omega);have HF:=af (show ans=match Kx.walk k.mem R a with | ((f,a,_),c)=>if c=0 then (Kx.word k.mem f.toNat a.toNat,true) else (0,false) by rw [zG.o,if_neg hr];rfl)
    have hR:R<12:=by have:=mW.o;omega
    have eU:decide ((R:Int)<0)=false:=decide_eq_false hr;clear hr zG mW;go_wp2_with fail;obtain ⟨⟨⟨f,c,wt⟩,code⟩,ak⟩:∃ r,Kx.walk k.mem R a=r:=⟨_,rfl⟩;have kS:=af ak;rw [ak] at HF;have S_:=af dI;have G2:=af g2;clear ak k0 k1 k2 k3 g2 dI;have IK:=af (show ∀ W,Below w1.heap.size w1 W->(W.cell? ⟨w.heap.size,0,none⟩=some (A0 am k.mem.length cm)/\W.cell? ⟨w.heap.size,2,none⟩=some (A0 (some ⟨b,off,none⟩) k.ah.length ce)/\W.cell? ⟨b,off+n*2+1,none⟩=some (I_ (R:Int))) from fun W h=>⟨(X0.o.below h).cell 0,(X0.o.below h).cell 2,(h.cell (p:=⟨b,off+n*2+1,none⟩) S_.o).trans G2.o⟩)
    have ax:=Below.refl w1.heap.size w1;have dn:=IK.o _ (Below.bz ax);refine afi IK fun ag=>?_
    clear dn;obtain ⟨d,hd⟩:∃ d,w1.drew=d:=⟨_,rfl⟩;rw [hd] at ag ⊢;replace ax:Below w1.heap.size w1 d:=hd ▸ Below.bz ax;clear hd;refine afW 0 ?_;refine ac' 8 ?_;refine ae' 9 13 (fun K hK=>?_) (fun K hK=>?_)
    case' refine_1 =>
     (go_simp;go_at_call 67;refine (o_ k.mem R a _ _ (HM.o.below ax) kG.o hR Ha.o).mono ?_;rintro en V1 ⟨rfl,hb⟩;rw [kS.o];unfold kM;have aj:=ax.trans (hb.mono ax.size);clear hb;have aX:=IK.o V1 aj;go_wp2_with fail)
     refine afS hK fun ag=>?_
     clear hK K;refine afU 10 ?_;refine ac' 12 ?_;refine ahk 13 fun K hK=>?_
     (go_simp;obtain ⟨UU,hU⟩:∃ V,V1.alloc (.cells #[I_ 0,I_ 0,.bool false] 67)=V:=⟨_,rfl⟩;have XP:=af (show BX UU V1.heap.size 67 [I_ 0,I_ 0,.bool false] from hU ▸ BX.new V1 _ _);obtain ⟨g7,Fh⟩:∃ g,V1.heap.size=g:=⟨_,rfl⟩;have aF:w1.heap.size<=g7:=Fh ▸ aj.size;have aB:=aj.trans ((show Below V1.heap.size V1 UU from hU ▸ dm).mono aj.size);have aZ:=IK.o UU aB;rw [Fh] at XP ⊢;try rw [hU];clear hU Fh)
     refine afS hK fun ag=>?_
     clear hK K
    case' refine_2 =>
     (go_simp;obtain ⟨U,hU⟩:∃ V,d.alloc (.cells #[I_ 0,I_ 0,.bool false] 67)=V:=⟨_,rfl⟩;have XP:=af (show BX U d.heap.size 67 [I_ 0,I_ 0,.bool false] from hU ▸ BX.new d _ _);obtain ⟨g7,Fh⟩:∃ g,d.heap.size=g:=⟨_,rfl⟩;have aF:w1.heap.size<=g7:=Fh ▸ ax.size;have aj:=ax.trans ((show Below d.heap.size d U from hU ▸ dm).mono ax.size);have aX:=IK.o U aj;rw [Fh] at XP ⊢;try rw [hU];clear hU Fh)
     refine afS hK fun ag=>?_
     clear hK K;refine ahk 9 fun K hK=>?_
     (go_simp;go_at_call 67;refine (o_ k.mem R a _ _ (HM.o.below aj) kG.o hR Ha.o).mono ?_;rintro en UU ⟨rfl,hb⟩;rw [kS.o];unfold kM;have aB:=aj.trans (hb.mono aj.size);replace XP:=af (XP.o.below hb);clear hb;have aZ:=IK.o UU aB;go_wp2_with fail)
     refine afS hK fun ag=>?_
     clear hK K;refine afU 10 ?_;refine ac' 12 ?_
    all_goals
     obtain ⟨p0,p1,p2⟩:UU.cell? ⟨g7,0,none⟩=some (I_ 0)/\UU.cell? ⟨g7,1,none⟩=some (I_ 0)/\UU.cell? ⟨g7,2,none⟩=some (.bool false):=⟨XP.o.cell 0,XP.o.cell 1,XP.o.cell 2⟩;have z0:=XP.o.frozen 0;have z1:=XP.o.frozen 1;have z2:=XP.o.frozen 2;replace XP:=af (((XP.o.set 0 (I_ f)).set 1 (I_ c)).set 2 (.bool wt));have aJ:=((aB.setCell (p:=⟨g7,0,none⟩) aF (I_ f)).setCell (p:=⟨g7,1,none⟩) aF (I_ c)).setCell (p:=⟨g7,2,none⟩) aF (.bool wt);refine ahk 14 fun K hK=>?_
     (go_simp;obtain ⟨V,hV⟩:∃ V,((UU.setCell ⟨g7,0,none⟩ (I_ f)).setCell ⟨g7,1,none⟩ (I_ c)).setCell ⟨g7,2,none⟩ (.bool wt)=V:=⟨_,rfl⟩;rw [hV] at aJ XP ⊢;have dw:=IK.o V aJ)
     refine afS hK fun ag=>?_
     clear hK K;refine ac' 15 ?_;refine wpAnyH_done (by kernel_rfl) ?_ _;replace XP:=af (show BX V g7 67 [I_ f,I_ c,.bool wt] from XP.o);clear hV p0 p1 p2 z0 z1 z2 ag aF aB aj aX aZ dw;replace B0:=af (B0.o.trans (aJ.mono B0.o.size));replace HM:=af (HM.o.below aJ);replace X0:=af (X0.o.below aJ);clear ax aJ;obtain ⟨k0,k1,k2,k3⟩:=X0.o.c4;obtain ⟨p0,p1,p2⟩:V.cell? ⟨g7,0,none⟩=some (I_ f)/\V.cell? ⟨g7,1,none⟩=some (I_ c)/\V.cell? ⟨g7,2,none⟩=some (.bool wt):=⟨XP.o.cell 0,XP.o.cell 1,XP.o.cell 2⟩
     by_cases hc:code=0
     ·subst hc;obtain ⟨f,c,rfl,rfl,hf,hc4⟩:=mJ kS.o;obtain ⟨b1,FI,cap1,b2,mP,cap2,ev,q1,q2,q3,q4⟩:=HM.o.word kG.o hf hc4;obtain ⟨rfl,hl,rfl⟩:=Za ev;clear ev;have HA:=af (show ans=(Kx.word k.mem f c,true) by rw [HF.o];simp);rw [hl] at k0;have wJ:(f:Int)<12:=by omega
      have fA:(c:Int)<4:=by omega
      generalize Kx.word k.mem f c=x at q2 q3 q4 HA;clear HF kS hl;go_wp2_with fail;go_quiet (fail);go_wp2_with fail;go_ret2;exact ⟨by rw [pI.o,HA.o];rfl,B0.o.trans ((below_drewN V _).mono B0.o.size)⟩
     have eY:(code != 0)=true:=by simpa using hc
     have HA:=af (show ans=(0,false) by rw [HF.o];simp [hc]);clear HF kS hc;go_wp2_with fail;go_ret2;exact ⟨by rw [pI.o,HA.o];rfl,B0.o⟩

theorem gm {B:Nat} {w W:World} (_h:TI (Below B w W)):∃ V,W=V:=⟨_,rfl⟩
theorem bu {W V u v:World} {g h s t:Nat} {l m:List Value} (d:Below W.heap.size W V) (K:TI (BX W g s l)) (C:TI (BX W h t m)) (B:TI (Below u.heap.size u W)) (D:TI (Below v.heap.size v W)):TI (BX V g s l)/\TI (BX V h t m)/\TI (Below u.heap.size u V)/\TI (Below v.heap.size v V):=⟨K.o.below d,C.o.below d,B.o.trans (d.mono B.o.size),D.o.trans (d.mono D.o.size)⟩
theorem eu {W V:World} {g s b:Nat} {l:List Value} {um ui ue uc:Value} {k:Kx.Kernel} (d:Below W.heap.size W V) (K:TI (BX W g s l)) (H:TI (KO W b um ui ue uc k)):TI (BX V g s l)/\TI (KO V b um ui ue uc k):=⟨K.o.below d,H.o.below d⟩
theorem cu (n c d:Int):((n==5)=true\/(n==5)=false/\(c != d)=true)\/(n≠5/\c=d):=by
 by_cases h:n=5 <;> by_cases g:c=d <;> simp [h,g]
theorem ng (m:List (List Int)) (root ad:Nat) (v:Value) (w:World) (h:RM w v m) (hm:bW m=true) (hr:root<12) (ha:ad<64) :
  Calls prog 35 #[v,I_ root,I_ ad] w fun e w'=>e=.returned (kM (Kx.walk m root ad))/\Below w.heap.size w w':=by
 obtain ⟨w0,aC⟩:∃ w0,w.alloc (.cells #[I_ 0,I_ 0,.bool false] 67)=w0:=⟨_,rfl⟩;have B0:=af (show Below w.heap.size w w0 from aC ▸ dm);have X0:=af (show BX w0 w.heap.size 67 [I_ 0,I_ 0,.bool false] from (aC ▸ BX.new w _ _:BX w0 _ _ _));have Me:Kx.bK (root:Int) 0 11=true:=Kx.ay.2 (by omega);have Oo:Kx.bK (ad:Int) 0 63=true:=Kx.ay.2 (by omega);have dS:=af Me;have VY:=af Oo;obtain ⟨_,av,cv,rfl,_,_⟩:=h.len;have HM:=af (h.below B0.o);have Hm:=af hm;clear h hm Me Oo;obtain ⟨⟨⟨f,a,b⟩,code⟩,ak⟩:∃ r,Kx.walk m root ad=r:=⟨_,rfl⟩;have kS:=af ak;clear ak;go_enter func35,ntmps35;go_wp2_with fail;clear aC;refine (kL m _ _ HM.o).mono ?_;rintro e w1 ⟨rfl,hb⟩;rw [Hm.o];replace B0:=af (B0.o.trans (hb.mono B0.o.size));replace X0:=af (X0.o.below hb);replace HM:=af (HM.o.below hb);clear hb
 go_wp2_with fail;refine (jO _ _).mono ?_;rintro e w' ⟨rfl,rfl⟩;rw [dS.o];go_wp2_with fail;refine (qI _ _).mono ?_;rintro e w' ⟨rfl,rfl⟩;rw [VY.o];go_wp2_with fail;refine (o_ m root ad _ _ HM.o Hm.o hr ha).mono ?_;rintro e w2 ⟨rfl,hb⟩;rw [kS.o];unfold kM;replace B0:=af (B0.o.trans (hb.mono B0.o.size));replace X0:=af (X0.o.below hb);clear hb;obtain ⟨z0,z1,z2⟩:w2.frozen? ⟨w.heap.size,0,none⟩=false/\w2.frozen? ⟨w.heap.size,1,none⟩=false/\w2.frozen? ⟨w.heap.size,2,none⟩=false:=⟨X0.o.frozen 0,X0.o.frozen 1,X0.o.frozen 2⟩;obtain ⟨k0,k1,k2⟩:w2.cell? ⟨w.heap.size,0,none⟩=some (I_ 0)/\w2.cell? ⟨w.heap.size,1,none⟩=some (I_ 0)/\w2.cell? ⟨w.heap.size,2,none⟩=some (.bool false):=⟨X0.o.cell 0,X0.o.cell 1,X0.o.cell 2⟩;have HZ:=af (((X0.o.set 0 (I_ f)).set 1 (I_ a)).set 2 (.bool b))
 have HB:=af (((B0.o.setCell (p:=⟨w.heap.size,0,none⟩) aW (I_ f)).setCell (p:=⟨w.heap.size,1,none⟩) aW (I_ a)).setCell (p:=⟨w.heap.size,2,none⟩) aW (.bool b));go_wp2_with fail;have e0:=HZ.o.cell 0;have e1:=HZ.o.cell 1;have e2:=HZ.o.cell 2;simp only [List.set_cons_zero,List.set_cons_succ,List.getElem?_cons_zero,List.getElem?_cons_succ] at e0 e1 e2;refine af7 (by simp [results,results35,go_sem,e0,e1,e2]<;>rfl) ?_;exact ⟨by rw [kS.o];rfl,HB.o⟩
end Go.Proofs.YtmmjmckajcfffaaGreatDoor
namespace Kx
def bn (k:Kernel) (c:Call) (W:(Int×Int×Bool)×Int):Out:=
 if bK c.a 0 63=true/\0<=(au k.ah c.env.toNat).root/\(c.kind=11->bK c.b 0 9999=true)/\W.2=0 then
  if c.kind=11 then if W.1.2.2=false then (k,0,1) else ({ k with cache:=je k c W.1.1 W.1.2.2,mem:=bG k.mem W.1.1.toNat (c.a % 4).toNat c.b },0,0)
  else ({ k with cache:=je k c W.1.1 W.1.2.2 },word k.mem W.1.1.toNat (c.a % 4).toNat,0)
 else (k,0,3)
theorem bi {k:Kernel} (hk:Ok k) {c:Call} (hkd:c.kind=10\/c.kind=11):cO k c=bn k c (walk k.mem (au k.ah c.env.toNat).root.toNat c.a.toNat):=by
 have e2:qm k c=access k c:=by rcases hkd with h | h <;> simp [qm,h]
 have key:access k c=bn k c (walk k.mem (au k.ah c.env.toNat).root.toNat c.a.toNat):=by
  unfold access bn;split
  ·rename_i hb
   rw [if_neg];rintro ⟨h1,h2,h3,_⟩;simp [h1] at hb;rcases hb with hb | hb
   ·omega
   rw [h3 hb.1] at hb;cases hb.2
  rename_i hb
  simp only [Bool.or_eq_true,Bool.not_eq_true',decide_eq_true_eq,Bool.and_eq_true,beq_iff_eq,not_or,Bool.not_eq_false] at hb;obtain ⟨⟨ha,hr⟩,hv⟩:=hb;have hp:=hk.place (env:=c.env) ha;generalize walk k.mem (au k.ah c.env.toNat).root.toNat c.a.toNat=W at hp ⊢;generalize placeOf k c.env c.a=P at hp ⊢;obtain ⟨⟨g,w⟩,code⟩:=P;obtain ⟨⟨f,a,b⟩,d⟩:=W;simp only at hp ⊢;obtain ⟨rfl,hp⟩:=hp
  by_cases hc:code=0
  ·obtain ⟨rfl,rfl⟩:=Prod.ext_iff.1 (hp hc);have eF:c.kind=11->bK c.b 0 9999=true:=fun h=>by
    cases hy:bK c.b 0 9999 with
    | true=>rfl
    | false=>exact absurd ⟨h,hy⟩ hv
   have hA:bK c.a 0 63=true/\0<=(au k.ah c.env.toNat).root/\(c.kind=11->bK c.b 0 9999=true)/\code=0:=⟨ha,by omega,eF,hc⟩;rw [if_neg (by simpa using hc),if_pos hA]
   by_cases h11:c.kind=11
   ·cases w <;> simp [h11]
   simp [h11]
  rw [if_pos hc,if_neg (fun h=>hc h.2.2.2)]
 have h3:∀ o:Out,o=(k,0,1)\/o=(k,0,3)\/o.2.2=0->(if o.2.2≠0 then (k,0,o.2.2) else o)=o:=by
  rintro o (rfl | rfl | h)
  ·rfl
  ·rfl
  rw [if_neg (by simpa using h)]
 unfold cO;rw [e2,key]
 exact h3 _ (by (unfold bn; repeat' split);all_goals simp)
theorem Nv {k:Kernel} (hk:Ok k) {env:Int} (he:bK env 0 2=true) (ad:Int):sees k env ad=(if bK ad 0 63=true/\0<=(au k.ah env.toNat).root/\(walk k.mem (au k.ah env.toNat).root.toNat ad.toNat).2=0 then
  (word k.mem (walk k.mem (au k.ah env.toNat).root.toNat ad.toNat).1.1.toNat (ad % 4).toNat,true) else (0,false)):=by
 unfold sees;rw [nN.2 hk,he]
 cases ha:bK ad 0 63 with
 | false=>simp
 | true =>
  have h1:=ay.1 ha
  by_cases hr:(au k.ah env.toNat).root<0
  ·have dC:¬ 0<=(au k.ah env.toNat).root:=by omega
   simp [hr,dC]
  rw [decide_eq_false hr];have dC:0<=(au k.ah env.toNat).root:=by omega
  have hw:=fun p h=>v_ (m:=k.mem) (root:=(au k.ah env.toNat).root.toNat) (ad:=ad.toNat) (p:=p) h
  generalize walk k.mem (au k.ah env.toNat).root.toNat ad.toNat=W at hw ⊢;obtain ⟨⟨f,a,b⟩,code⟩:=W
  by_cases hc:code=0
  ·subst hc;obtain ⟨t,f',a',b',_,_,hp,_⟩:=hw _ rfl;simp only [Prod.mk.injEq] at hp;have e:a.toNat=(ad % 4).toNat:=by rw [hp.2.1];omega
   simp [dC,e]
  simp [hc]
theorem bf {k:Kernel} (hk:Ok k) {c:Call} (he:bK c.env 0 2=true) (h11:c.kind=11) :
  (¬ ((sees k c.env c.a).2=true/\0<=c.b/\c.b<=9999)->(cO k c).2.2=3) /\
  ((sees k c.env c.a).2=true->0<=c.b->c.b<=9999->∃ A R:Nat,A<64/\R<12/\c.a=(A:Int)/\(au k.ah c.env.toNat).root=(R:Int)/\(walk k.mem R A).2=0/\(walk k.mem R A).1.2.2=((cO k c).2.2 != 1)):=by
 rw [bi hk (.inr h11),Nv hk he];unfold bn;have eX:=ay.1 he;refine ⟨fun hn=>?_,fun hs h0 h9=>?_⟩
 ·rw [if_neg];rintro ⟨q1,q2,q3,q4⟩;exact hn ⟨by rw [if_pos ⟨q1,q2,q4⟩],ay.1 (q3 h11)⟩
 by_cases hA:bK c.a 0 63=true/\0<=(au k.ah c.env.toNat).root/\(walk k.mem (au k.ah c.env.toNat).root.toNat c.a.toNat).2=0
 ·have dY:=ay.1 hA.1;have ht:=hk.top (e:=c.env.toNat) (by omega) hA.2.1;rw [if_pos ⟨hA.1,hA.2.1,fun _=>ay.2 ⟨h0,h9⟩,hA.2.2⟩,if_pos h11]
  obtain ⟨A,hcA⟩:=Int.eq_ofNat_of_zero_le dY.1;obtain ⟨R,hcR⟩:=Int.eq_ofNat_of_zero_le hA.2.1;rw [hcR,Int.toNat_natCast] at ht;rw [hcA,hcR,Int.toNat_natCast,Int.toNat_natCast] at hA;rw [hcA,hcR,Int.toNat_natCast,Int.toNat_natCast];refine ⟨A,R,by omega,ht.2,rfl,rfl,hA.2.2,?_⟩
  cases (walk k.mem R A).1.2.2 <;> simp
 rw [if_neg hA] at hs;exact absurd hs (by simp)
end Kx
namespace Go.Proofs.YtmmjmckajcfffaaGreatDoor
open Go.RowKit Kx

theorem FnStoreRefused_c (a:Option Addr) (len0 cap0:Nat) (zr:List Int) (w:World) (h0:abT .u8 w a len0 cap0 zr) :
  Calls prog 14 #[.slice a len0 cap0] w (aez w):=by
 by_cases hl0:len0<=1048576
 ·have dK:¬ (1048576:Int)<(len0:Int):=by omega
  have Hr:=af (abT.rb h0);clear h0;go_enter func14,ntmps14;go_wp2_with fail;clear dK;refine (adi _ _ _ Hr.o).mono ?_;rintro en w1 ⟨k,⟨bQ,JF,ca,cb,cc,bg⟩,_,_,_,_,rfl,hsl,hs,bP,dA,hk,hb⟩;obtain ⟨⟨a0,n0,m0,rfl⟩,⟨a1,n1,m1,rfl⟩,⟨a2,n2,m2,rfl⟩,⟨a3,n3,m3,rfl⟩⟩:=hsl;unfold dW;obtain ⟨u1,bJ⟩:∃ V,w1.alloc (.cells #[.slice none 0 0,.slice none 0 0,.slice none 0 0,.slice none 0 0] 28)=V:=⟨_,rfl⟩;obtain ⟨u2,dD⟩:∃ V,u1.alloc (.cells #[I_ 0,I_ 0,I_ 0,I_ 0,I_ 0,.string ⟨#[]⟩] 30)=V:=⟨_,rfl⟩;have bT:Below w1.heap.size w1 u1:=bJ ▸ dm;have bU:Below u1.heap.size u1 u2:=dD ▸ dm;have bV:w1.heap.size<u1.heap.size:=by rw [<-bJ];simp
  have bC:=af (show BX u2 w1.heap.size 28 [.slice none 0 0,.slice none 0 0,.slice none 0 0,.slice none 0 0] from (bJ ▸ BX.new w1 _ _:BX u1 _ _ _).below bU);have dE:=af (show BX u2 u1.heap.size 30 [I_ 0,I_ 0,I_ 0,I_ 0,I_ 0,.string ⟨#[]⟩] from dD ▸ BX.new u1 _ _);have dF:=af (bT.trans (bU.mono bT.size));obtain ⟨p0,p1,p2,p3⟩:=bC.o.c4;obtain ⟨q0,q1,q2,q3⟩:=bC.o.f4;have aG:=BX.iq (Nat.ne_of_gt bV) [.slice a0 n0 m0,.slice a1 n1 m1,.slice a2 n2 m2,.slice a3 n3 m3] 0 dE.o;have bY:=bC.o.sets [.slice a0 n0 m0,.slice a1 n1 m1,.slice a2 n2 m2,.slice a3 n3 m3] rfl;rw [<-afA] at bY aG;have Y2:=aG.sets [I_ bQ,I_ JF,I_ ca,I_ cb,I_ cc,.string bg] rfl;have bD:=BX.iq (Nat.ne_of_lt bV) [I_ bQ,I_ JF,I_ ca,I_ cb,I_ cc,.string bg] 0 bY
  have BF:=dP (Nat.le_of_lt bV) [I_ bQ,I_ JF,I_ ca,I_ cb,I_ cc,.string bg] 0 (dP aW [.slice a0 n0 m0,.slice a1 n1 m1,.slice a2 n2 m2,.slice a3 n3 m3] 0 dF.o);rw [<-afA] at BF;rw [<-afB] at Y2 bD BF;obtain ⟨d0,d1,d2,d3,d4,d5⟩:=aG.c6;have f0:=aG.frozen 0;have f1:=aG.frozen 1;have f2:=aG.frozen 2;have f3:=aG.frozen 3;have f4:=aG.frozen 4;have f5:=aG.frozen 5;have e0:=bD.c4;have g0:=Y2.c6;have bZ:=af Y2;have cZ:=af bD;have bF:=af BF;clear bY aG Y2 bD BF bC dE dF bT bU;go_wp2_with fail;clear bJ dD p0 p1 p2 p3 q0 q1 q2 q3 d0 d1 d2 d3 d4 d5 f0 f1 f2 f3 f4 f5 e0 g0;obtain ⟨w3,dJ⟩:=gm bF;rw [dJ] at bZ cZ bF ⊢;have aA:=cZ;have ai:=bZ;have TP:=bF.o;have Bw:=af (hb.trans (TP.mono hb.size));have HR:=af (fun W (h:Below w3.heap.size w3 W)=>(hk.below TP).below h)
  have Hs:=af hs;have HI:=af (fun W (h:Below w3.heap.size w3 W)=>adb k ⟨bQ,JF,ca,cb,cc,bg⟩ _ _ _ _ W (HR.o W h) hs bP dA)
  have HS:=af (fun W (h:Below w3.heap.size w3 W)=>ac9 k ⟨bQ,JF,ca,cb,cc,bg⟩ _ _ _ _ W (HR.o W h) hs bP)
  have eG:=af bP;have eH:=af dA;obtain ⟨r,hr⟩:∃ r,QH k ⟨bQ,JF,ca,cb,cc,bg⟩=r:=⟨_,rfl⟩;have HX:=af hr;rw [hr] at HI HS;unfold dW at HI HS;have B3:=af (Below.refl w3.heap.size w3);clear hs bP dA hk hb TP Hr hr dJ bZ cZ bF;refine (HI.o w3 B3.o).mono ?_;rintro en w4 ⟨_,_,_,_,rfl,aQ,hb⟩;obtain ⟨⟨b0,q0,z0,rfl⟩,⟨b1,q1,z1,rfl⟩,⟨b2,q2,z2,rfl⟩,⟨b3,q3,z3,rfl⟩⟩:=aQ.sl;obtain ⟨aA,ai,Bw,B3⟩:=bu hb aA ai Bw B3;obtain ⟨w5,bI⟩:∃ V,w4.alloc (.cells #[.slice b0 q0 z0,.slice b1 q1 z1,.slice b2 q2 z2,.slice b3 q3 z3] 28)=V:=⟨_,rfl⟩;have df:Below w4.heap.size w4 w5:=bI ▸ dm;have aH:=af (show BX w5 w4.heap.size 28 [.slice b0 q0 z0,.slice b1 q1 z1,.slice b2 q2 z2,.slice b3 q3 z3] from bI ▸ BX.new w4 _ _);have HO:=af (aQ.below df);obtain ⟨aA,ai,Bw,B3⟩:=bu df aA ai Bw B3;clear aQ hb df;obtain ⟨p0,p1,p2,p3⟩:=aA.o.c4;have c0:=ai.o.c6
  go_wp2_with fail
  try rw [bI]
  clear bI p0 p1 p2 p3;clear c0;refine (HS.o w5 B3.o).mono ?_;rintro en w6 ⟨_,_,_,_,rfl,aQ,hb⟩;obtain ⟨⟨d0,x0,y0,rfl⟩,⟨d1,x1,y1,rfl⟩,⟨d2,x2,y2,rfl⟩,⟨d3,x3,y3,rfl⟩⟩:=aQ.sl;obtain ⟨aA,ai,Bw,B3⟩:=bu hb aA ai Bw B3;obtain ⟨aH,HO⟩:=eu hb aH HO;obtain ⟨w7,bM⟩:∃ V,w6.alloc (.cells #[.slice d0 x0 y0,.slice d1 x1 y1,.slice d2 x2 y2,.slice d3 x3 y3] 28)=V:=⟨_,rfl⟩;have bH:Below w6.heap.size w6 w7:=bM ▸ dm;have aV:=af (show BX w7 w6.heap.size 28 [.slice d0 x0 y0,.slice d1 x1 y1,.slice d2 x2 y2,.slice d3 x3 y3] from bM ▸ BX.new w6 _ _);have HW:=af (aQ.below bH);obtain ⟨aA,ai,Bw,B3⟩:=bu bH aA ai Bw B3;obtain ⟨aH,HO⟩:=eu bH aH HO;clear aQ hb bH HI HS;have o0:=aH.o.c4;have t0:=aV.o.c4;go_wp2_with fail
  try rw [bM]
  clear bM o0;clear t0;refine (adE r.1 _ _ _ _ _ _ _ _ _ HO.o.rk HW.o.rk).mono ?_;rintro en w8 ⟨rfl,hb⟩;obtain ⟨aA,ai,Bw,B3⟩:=bu hb aA ai Bw B3;obtain ⟨aH,HO⟩:=eu hb aH HO;obtain ⟨aV,HW⟩:=eu hb aV HW;clear hb;rcases cu r.2.2 bQ 11 with hE | ⟨h5,rfl⟩
  case inl =>
   rcases hE with dG | ⟨dG,hkb⟩
   all_goals (
    have c0:=ai.o.c6;have o0:=aH.o.c4;have t0:=aV.o.c4;go_wp2_with fail;refine (adE r.1 _ _ _ _ _ _ _ _ _ HO.o.rk HW.o.rk).mono ?_;rintro en w9 ⟨rfl,hb⟩;obtain ⟨aA,ai,Bw,B3⟩:=bu hb aA ai Bw B3;obtain ⟨aH,HO⟩:=eu hb aH HO;obtain ⟨aV,HW⟩:=eu hb aV HW;clear hb o0;clear t0 c0;go_wp2_with fail;go_ret;exact ⟨rfl,Bw.o⟩)
  have dG:(r.2.2==5)=false:=by simpa using h5
  have H5:=af h5;clear h5;have HP:=af (adQ (k:=k) (c:=⟨11,JF,ca,cb,cc,bg⟩) (by rw [HX.o];exact H5.o));have HC:=af (show Kx.cO k ⟨11,JF,ca,cb,cc,bg⟩=r from HP.o.2.2.1.symm.trans HX.o);have Yy:=af (Kx.nN.1 HP.o.1);obtain ⟨aU,aO⟩:=Kx.bf Yy.o (c:=⟨11,JF,ca,cb,cc,bg⟩) HP.o.2.1 rfl;rw [HC.o] at aU aO;simp only at aU aO;obtain ⟨hm,jI,dh,-⟩:=aI HP.o.1;have di:k.ah.length=3:=Yy.o.e3;have dB:=Kx.ay.1 HP.o.2.1;simp only at dB;obtain ⟨e,rfl⟩:=Int.eq_ofNat_of_zero_le dB.1;have he:e<3:=by omega
  obtain ⟨bk,ok,qk,eP,ek,lk,yk,sk,rk⟩:=(HR.o w8 B3.o).e.at (k:=e) (by rw [di];exact he);obtain ⟨rfl,rfl,rfl⟩:=Za ek;clear ek;have eQ:(e:Int)<(k.ah.length:Int):=by rw [di];omega
  rw [show ((e:Int)).toNat=e from rfl] at aO;have HK:=af (oG k (e:Int) ca _ _ _ _ w8 (HR.o w8 B3.o) Hs.o);obtain ⟨⟨sx,sb⟩,dN⟩:∃ s,Kx.sees k (e:Int) ca=s:=⟨_,rfl⟩;rw [dN] at aU aO HK;simp only at aU aO;have Lk:=af lk;have Sk:=af sk;have kG:=af hm;clear dN hm jI dh di dB he yk sk rk lk;obtain ⟨p0,p1,p2,p3⟩:=aA.o.c4;have c0:=ai.o.c6;go_wp2_with fail;refine HK.o.mono ?_;rintro en w9 ⟨rfl,hb⟩;replace Sk:=af ((hb.cell (p:=⟨bk,ok+e*2+1,none⟩) Lk.o).trans Sk.o);replace Lk:=af (Nat.lt_of_lt_of_le Lk.o hb.size);obtain ⟨aA,ai,Bw,B3⟩:=bu hb aA ai Bw B3;clear p0 p1 p2 p3 c0;clear hb HK;obtain ⟨b3,dR⟩:∃ b,(r.2.2==3)=b:=⟨_,rfl⟩
  by_cases hg:sb=true/\0<=cb/\cb<=9999
  ·obtain ⟨rfl,h0,h9⟩:=hg;have UI:decide (cb<0)=false:=decide_eq_false (by omega);have dV:decide (9999<cb)=false:=decide_eq_false (by omega);obtain ⟨A,R,hA,hR,hca,aN,aC,aY⟩:=aO rfl h0 h9;subst hca;rw [aN] at Sk;obtain ⟨⟨⟨f,c,wt⟩,code⟩,ak⟩:∃ x,Kx.walk k.mem R A=x:=⟨_,rfl⟩;rw [ak] at aC aY;simp only at aC aY;subst aC;have kS:=af ak;have dX:=af aY.symm;have dO:=af (fun W (h:Below w9.heap.size w9 W)=>ng k.mem R A _ W (HR.o W (B3.o.trans (h.mono B3.o.size))).m kG.o hR hA)
   have aP:=af (show ∀ W,Below w9.heap.size w9 W->(W.cell? ⟨w1.heap.size,0,none⟩=some (.slice a0 n0 m0)/\W.cell? ⟨w1.heap.size,2,none⟩=some (.slice (some ⟨bk,ok,none⟩) k.ah.length m2)/\W.cell? ⟨u1.heap.size,1,none⟩=some (I_ (e:Int))/\W.cell? ⟨u1.heap.size,2,none⟩=some (I_ (A:Int))/\W.cell? ⟨bk,ok+e*2+1,none⟩=some (I_ (R:Int))) from fun W h=>⟨(aA.o.below h).cell 0,(aA.o.below h).cell 2,(ai.o.below h).cell 1,(ai.o.below h).cell 2,(h.cell (p:=⟨bk,ok+e*2+1,none⟩) Lk.o).trans Sk.o⟩)
   clear aU aO h0 h9 hA hR aN ak aY dR;have c0:=ai.o.c6;go_wp2_with fail;clear c0;have ax:=Below.refl w9.heap.size w9;have dn:=aP.o _ (Below.bz ax);refine afi aP fun ag=>?_
   clear dn;obtain ⟨d,hd⟩:∃ d,w9.drew=d:=⟨_,rfl⟩;rw [hd] at ag ⊢;replace ax:Below w9.heap.size w9 d:=hd ▸ Below.bz ax;clear hd;refine afW 0 ?_;refine afU 8 ?_;refine ac' 10 ?_;refine ae' 11 15 (fun K hK=>?_) (fun K hK=>?_)
   case' refine_1 =>
    (go_simp;go_at_call 35;refine (dO.o _ ax).mono ?_;rintro en V1 ⟨rfl,hb⟩;rw [kS.o];unfold kM;have aj:=ax.trans (hb.mono ax.size);clear hb;have aX:=aP.o V1 aj;go_wp2_with fail)
    refine afS hK fun ag=>?_
    clear hK K;refine afU 12 ?_;refine ac' 14 ?_;refine ahk 15 fun K hK=>?_
    (go_simp;obtain ⟨aK,hU⟩:∃ V,V1.alloc (.cells #[I_ 0,I_ 0,.bool false] 67)=V:=⟨_,rfl⟩;have XP:=af (show BX aK V1.heap.size 67 [I_ 0,I_ 0,.bool false] from hU ▸ BX.new V1 _ _);obtain ⟨g7,Fh⟩:∃ g,V1.heap.size=g:=⟨_,rfl⟩;have aF:w9.heap.size<=g7:=Fh ▸ aj.size;have aB:=aj.trans ((show Below V1.heap.size V1 aK from hU ▸ dm).mono aj.size);have aZ:=aP.o aK aB;rw [Fh] at XP ⊢;try rw [hU];clear hU Fh)
    refine afS hK fun ag=>?_
    clear hK K
   case' refine_2 =>
    (go_simp;obtain ⟨U,hU⟩:∃ V,d.alloc (.cells #[I_ 0,I_ 0,.bool false] 67)=V:=⟨_,rfl⟩;have XP:=af (show BX U d.heap.size 67 [I_ 0,I_ 0,.bool false] from hU ▸ BX.new d _ _);obtain ⟨g7,Fh⟩:∃ g,d.heap.size=g:=⟨_,rfl⟩;have aF:w9.heap.size<=g7:=Fh ▸ ax.size;have aj:=ax.trans ((show Below d.heap.size d U from hU ▸ dm).mono ax.size);have aX:=aP.o U aj;rw [Fh] at XP ⊢;try rw [hU];clear hU Fh)
    refine afS hK fun ag=>?_
    clear hK K;refine ahk 11 fun K hK=>?_
    (go_simp;go_at_call 35;refine (dO.o _ aj).mono ?_;rintro en aK ⟨rfl,hb⟩;rw [kS.o];unfold kM;have aB:=aj.trans (hb.mono aj.size);replace XP:=af (XP.o.below hb);clear hb;have aZ:=aP.o aK aB;go_wp2_with fail)
    refine afS hK fun ag=>?_
    clear hK K;refine afU 12 ?_;refine ac' 14 ?_
   all_goals
    obtain ⟨p0,p1,p2⟩:aK.cell? ⟨g7,0,none⟩=some (I_ 0)/\aK.cell? ⟨g7,1,none⟩=some (I_ 0)/\aK.cell? ⟨g7,2,none⟩=some (.bool false):=⟨XP.o.cell 0,XP.o.cell 1,XP.o.cell 2⟩;have z0:=XP.o.frozen 0;have z1:=XP.o.frozen 1;have z2:=XP.o.frozen 2;replace XP:=af (((XP.o.set 0 (I_ f)).set 1 (I_ c)).set 2 (.bool wt));have aJ:=((aB.setCell (p:=⟨g7,0,none⟩) aF (I_ f)).setCell (p:=⟨g7,1,none⟩) aF (I_ c)).setCell (p:=⟨g7,2,none⟩) aF (.bool wt);refine ahk 16 fun K hK=>?_
    (go_simp;obtain ⟨V,hV⟩:∃ V,((aK.setCell ⟨g7,0,none⟩ (I_ f)).setCell ⟨g7,1,none⟩ (I_ c)).setCell ⟨g7,2,none⟩ (.bool wt)=V:=⟨_,rfl⟩;rw [hV] at aJ XP ⊢;have dw:=aP.o V aJ)
    refine afS hK fun ag=>?_
    clear hK K;refine ac' 17 ?_;refine wpAnyH_done (by kernel_rfl) ?_ _;replace XP:=af (show BX V g7 67 [I_ f,I_ c,.bool wt] from XP.o);clear hV p0 p1 p2 z0 z1 z2 ag aF aB aj aX aZ dw;have x2:V.cell? ⟨g7,2,none⟩=some (.bool wt):=XP.o.cell 2;have aY:=dX.o;clear ax;go_wp2_with fail;go_ret;exact ⟨rfl,Bw.o.trans (aJ.mono Bw.o.size)⟩
  obtain rfl:b3=true:=by rw [<-dR,aU hg];rfl
  cases sb
  all_goals (cases UI:decide (cb<0))
  all_goals (try (have dV:decide (9999<cb)=true:=by simp at UI hg ⊢;exact hg UI))
  all_goals (
   clear aU aO hg;have c0:=ai.o.c6;go_wp2_with fail;go_ret;exact ⟨rfl,Bw.o⟩)
 have dK:(1048576:Int)<(len0:Int):=by omega
 clear h0;go_enter func14,ntmps14;go_wp2_with fail;go_ret;exact ⟨rfl,Below.refl _ _⟩
end Go.Proofs.YtmmjmckajcfffaaGreatDoor
