/- The law FnLoad: a word is read at its address. (printed by klc.py) -/
import Derived.Test.YtmmjmckajcfffaaGreatDoorKMn
set_option linter.all false
set_option maxHeartbeats 8000000
set_option maxRecDepth 100000
open Go.Proofs.Tryz
open Int renaming eq_ofNat_of_zero_le->A1
open Go.Value renaming slice->A0
namespace Go.Proofs.YtmmjmckajcfffaaGreatDoor
open Go.RowKit Kx
variable {ops:Array Oper}{fuel:Nat}{listed:Array Bool}
theorem mJ {m:List (List Int)} {r ad:Nat} {f a:Int} {b:Bool} (h:Kx.walk m r ad=((f,a,b),0)):∃ (f' a':Nat),f=f'/\a=a'/\f'<12/\a'<4:=by
 unfold Kx.walk at h;split at h
 ·simp at h
 split at h
 ·simp at h
 rename_i t c he f' d he2
 simp only [Prod.mk.injEq] at h;obtain ⟨⟨h1,h2,_⟩,_⟩:=h;exact ⟨f',ad % 4,h1.symm,h2.symm,Kx.dU he2,Nat.mod_lt _ (by decide)⟩
theorem ac' {P:Program} {Q:Exit->Act->World->Prop} {md:Region.Mode} {S:World->Prop} {o1:Oper} {v1:Value} {l1:Array Bool} {a a1:Act} {w:World} (i:Nat) (h:wpAnyH P md ops Q S fuel l1 a1 w) (hS:S w:=by assumption) (h1:Stp P md ops Q S i o1 v1 listed l1 a a1:=by exact stp):wpAnyH P md ops Q S (fuel+1) listed a w:=h1.go hS h
theorem ae' {P:Program} {Q:Exit->Act->World->Prop} {md:Region.Mode} {S:World->Prop} {oi oj:Oper} {a:Act} {w:World} (i j:Nat)
  (h:∀ K':Act->World->Prop,Shut (∀ a w,S w->(S w->wpAnyH P md ops Q S fuel (listed.setIfInBounds i true) a w)->K' a w)->Oper.wp P oi a w K' Q)
  (h':∀ K':Act->World->Prop,Shut (∀ a w,S w->(S w->wpAnyH P md ops Q S fuel (listed.setIfInBounds j true) a w)->K' a w)->Oper.wp P oj a w K' Q)
  (hi:ops[i]?=some oi:=by rfl) (hj:ops[j]?=some oj:=by rfl) (hr:Region.ready md ops listed=[i,j]:=by kernel_rfl) (hw:Region.wanted oi (yielded ops a.tmps)=true:=by rfl) (hw':Region.wanted oj (yielded ops a.tmps)=true:=by rfl) :
  wpAnyH P md ops Q S (fuel+1) listed a w:=
 wpAnyH_ready (rs:=[i,j]) hr (by simp) (AllReadyH.cons hi (fun K hK=>by rw [if_pos hw];exact h K hK) (AllReadyH.cons hj (fun K hK=>by rw [if_pos hw'];exact h' K hK) AllReadyH.nil))
theorem oG (k:Kx.Kernel) (env ad:Int) (vm vi ve vc:Value) (w:World) (h:RK w vm vi ve vc k) (hs:iQ k) :
  Calls prog 31 #[.agg #[vm,vi,ve,vc],I_ env,I_ ad] w fun e w'=>e=.returned (.tuple #[I_ (Kx.sees k env ad).1,.bool (Kx.sees k env ad).2])/\Below w.heap.size w w':=by
 obtain ⟨w0,hw0⟩:∃ w0,w.alloc (.cells #[vm,vi,ve,vc] 28)=w0:=⟨_,rfl⟩;have B0:=af (show Below w.heap.size w w0 from hw0 ▸ dm);have X0:=af (show BX w0 w.heap.size 28 [vm,vi,ve,vc] from (hw0 ▸ BX.new w _ _:BX w0 _ _ _));have HK:=af (h.below B0.o);obtain ⟨_,am,cm,rfl,_,_⟩:=h.m.len;obtain ⟨_,ae,ce,rfl,_,_⟩:=h.e.len;have HV:=af (show Kx.sees k env ad=if !az k||!Kx.bK env 0 2||!Kx.bK ad 0 63||decide ((au k.ah env.toNat).root<0) then (0,false)
 else match Kx.walk k.mem (au k.ah env.toNat).root.toNat ad.toNat with
  | ((f,a,_),c)=>if c=0 then (Kx.word k.mem f.toNat a.toNat,true) else (0,false) from rfl)
 have HC:=af (mX k _ vi _ vc w0 HK.o hs);obtain ⟨ans,hans⟩:∃ r,Kx.sees k env ad=r:=⟨_,rfl⟩;have pI:=af hans;rw [hans] at HV;obtain ⟨k0,k1,k2,k3⟩:=X0.o.c4;clear h hs hans;go_enter func31,ntmps31;go_wp2_with fail;clear hw0;refine HC.o.mono ?_;rintro e w1 ⟨rfl,hb⟩;replace B0:=af (B0.o.trans (hb.mono B0.o.size));replace X0:=af (X0.o.below hb);replace HK:=af (HK.o.below hb);clear hb HC k0 k1 k2 k3
 cases hv:az k with
 | false =>
  have HF:=af (show ans=(0,false) by rw [HV.o,hv];rfl);clear hv HV;go_wp2_with fail;go_ret2;exact ⟨by rw [pI.o,HF.o];rfl,B0.o⟩
 | true =>
  have V1:=af hv;clear hv;go_wp2_with fail;refine (BR _ _).mono ?_;rintro e w' ⟨rfl,rfl⟩
  cases hv:Kx.bK env 0 2 with
  | false =>
   have HF:=af (show ans=(0,false) by rw [HV.o,hv];simp);clear hv HV;go_wp2_with fail;go_ret2;exact ⟨by rw [pI.o,HF.o];rfl,B0.o⟩
  | true =>
   have V2:=af hv;clear hv;go_wp2_with fail;refine (qI _ _).mono ?_;rintro e w' ⟨rfl,rfl⟩
   cases hv:Kx.bK ad 0 63 with
   | false =>
    have HF:=af (show ans=(0,false) by rw [HV.o,hv];simp);clear hv HV;go_wp2_with fail;go_ret2;exact ⟨by rw [pI.o,HF.o];rfl,B0.o⟩
   | true =>
    obtain ⟨h0,h2⟩:=Kx.ay.1 V2.o;obtain ⟨n,rfl⟩:=A1 h0;obtain ⟨h0',h2'⟩:=Kx.ay.1 hv;obtain ⟨a,rfl⟩:=A1 h0';obtain ⟨hmo,jI,h12,hco,h3,hro⟩:=aI V1.o;have hn3:n<3:=by omega
    have mW:=af (hro n hn3);have zG:=af (show ans=if (au k.ah n).root<0 then (0,false) else match Kx.walk k.mem (au k.ah n).root.toNat a with | ((f,a,_),c)=>if c=0 then (Kx.word k.mem f.toNat a.toNat,true) else (0,false) by rw [HV.o,V1.o,V2.o,hv];simp)
    have MJ:(n:Int)<(k.ah.length:Int):=by omega
    obtain ⟨b,off,cap,u,ev,hbb,_,g2,_⟩:=HK.o.e.at (k:=n) (by omega);obtain ⟨rfl,_,rfl⟩:=Za ev;clear ev;obtain ⟨k0,k1,k2,k3⟩:=X0.o.c4;have HM:=af HK.o.m;have kG:=af hmo;have Ha:=af (show a<64 by omega);clear hv HV h0 hmo jI h12 hco h3 hro hn3 h2 h0' h2' V1 V2;generalize (au k.ah n).root=r at g2 zG mW;have G2:=af g2
    by_cases hr:r<0
    ·have HF:=af (show ans=(0,false) by rw [zG.o,if_pos hr]);go_wp2_with fail;go_ret2;exact ⟨by rw [pI.o,HF.o];rfl,B0.o⟩
    obtain ⟨R,rfl⟩:=A1 (show 0<=r by omega);have HF:=af (show ans=match Kx.walk k.mem R a with | ((f,a,_),c)=>if c=0 then (Kx.word k.mem f.toNat a.toNat,true) else (0,false) by rw [zG.o,if_neg hr];rfl)
    have hR:R<12:=by have:=mW.o;omega
    have hrb:decide ((R:Int)<0)=false:=decide_eq_false hr;clear hr zG mW;go_wp2_with fail;obtain ⟨⟨⟨f,c,wt⟩,code⟩,hres⟩:∃ r,Kx.walk k.mem R a=r:=⟨_,rfl⟩;have kS:=af hres;rw [hres] at HF;have S_:=af hbb;have G2:=af g2;clear hres k0 k1 k2 k3 g2 hbb;have IK:=af (show ∀ W,Below w1.heap.size w1 W->(W.cell? ⟨w.heap.size,0,none⟩=some (A0 am k.mem.length cm)/\W.cell? ⟨w.heap.size,2,none⟩=some (A0 (some ⟨b,off,none⟩) k.ah.length ce)/\W.cell? ⟨b,off+n*2+1,none⟩=some (I_ (R:Int))) from fun W h=>⟨(X0.o.below h).cell 0,(X0.o.below h).cell 2,(h.cell (p:=⟨b,off+n*2+1,none⟩) S_.o).trans G2.o⟩)
    have hb0:=Below.refl w1.heap.size w1;have hS0:=IK.o _ (Below.bz hb0);refine afi IK fun hHeld=>?_
    clear hS0;obtain ⟨d,hd⟩:∃ d,w1.drew=d:=⟨_,rfl⟩;rw [hd] at hHeld ⊢;replace hb0:Below w1.heap.size w1 d:=hd ▸ Below.bz hb0;clear hd;refine afW 0 ?_;refine ac' 8 ?_;refine ae' 9 13 (fun K hK=>?_) (fun K hK=>?_)
    case' refine_1 =>
     (go_simp;go_at_call 67;refine (o_ k.mem R a _ _ (HM.o.below hb0) kG.o hR Ha.o).mono ?_;rintro en V1 ⟨rfl,hb⟩;rw [kS.o];unfold kM;have hb1:=hb0.trans (hb.mono hb0.size);clear hb;have hS1:=IK.o V1 hb1;go_wp2_with fail)
     refine afS hK fun hHeld=>?_
     clear hK K;refine afU 10 ?_;refine ac' 12 ?_;refine ahk 13 fun K hK=>?_
     (go_simp;obtain ⟨UU,hU⟩:∃ V,V1.alloc (.cells #[I_ 0,I_ 0,.bool false] 67)=V:=⟨_,rfl⟩;have XP:=af (show BX UU V1.heap.size 67 [I_ 0,I_ 0,.bool false] from hU ▸ BX.new V1 _ _);obtain ⟨g7,Fh⟩:∃ g,V1.heap.size=g:=⟨_,rfl⟩;have hgd:w1.heap.size<=g7:=Fh ▸ hb1.size;have hb2:=hb1.trans ((show Below V1.heap.size V1 UU from hU ▸ dm).mono hb1.size);have hS2:=IK.o UU hb2;rw [Fh] at XP ⊢;try rw [hU];clear hU Fh)
     refine afS hK fun hHeld=>?_
     clear hK K
    case' refine_2 =>
     (go_simp;obtain ⟨U,hU⟩:∃ V,d.alloc (.cells #[I_ 0,I_ 0,.bool false] 67)=V:=⟨_,rfl⟩;have XP:=af (show BX U d.heap.size 67 [I_ 0,I_ 0,.bool false] from hU ▸ BX.new d _ _);obtain ⟨g7,Fh⟩:∃ g,d.heap.size=g:=⟨_,rfl⟩;have hgd:w1.heap.size<=g7:=Fh ▸ hb0.size;have hb1:=hb0.trans ((show Below d.heap.size d U from hU ▸ dm).mono hb0.size);have hS1:=IK.o U hb1;rw [Fh] at XP ⊢;try rw [hU];clear hU Fh)
     refine afS hK fun hHeld=>?_
     clear hK K;refine ahk 9 fun K hK=>?_
     (go_simp;go_at_call 67;refine (o_ k.mem R a _ _ (HM.o.below hb1) kG.o hR Ha.o).mono ?_;rintro en UU ⟨rfl,hb⟩;rw [kS.o];unfold kM;have hb2:=hb1.trans (hb.mono hb1.size);replace XP:=af (XP.o.below hb);clear hb;have hS2:=IK.o UU hb2;go_wp2_with fail)
     refine afS hK fun hHeld=>?_
     clear hK K;refine afU 10 ?_;refine ac' 12 ?_
    all_goals
     obtain ⟨p0,p1,p2⟩:UU.cell? ⟨g7,0,none⟩=some (I_ 0)/\UU.cell? ⟨g7,1,none⟩=some (I_ 0)/\UU.cell? ⟨g7,2,none⟩=some (.bool false):=⟨XP.o.cell 0,XP.o.cell 1,XP.o.cell 2⟩;have z0:=XP.o.frozen 0;have z1:=XP.o.frozen 1;have z2:=XP.o.frozen 2;replace XP:=af (((XP.o.set 0 (I_ f)).set 1 (I_ c)).set 2 (.bool wt));have hb3:=((hb2.setCell (p:=⟨g7,0,none⟩) hgd (I_ f)).setCell (p:=⟨g7,1,none⟩) hgd (I_ c)).setCell (p:=⟨g7,2,none⟩) hgd (.bool wt);refine ahk 14 fun K hK=>?_
     (go_simp;obtain ⟨V,hV⟩:∃ V,((UU.setCell ⟨g7,0,none⟩ (I_ f)).setCell ⟨g7,1,none⟩ (I_ c)).setCell ⟨g7,2,none⟩ (.bool wt)=V:=⟨_,rfl⟩;rw [hV] at hb3 XP ⊢;have hS3:=IK.o V hb3)
     refine afS hK fun hHeld=>?_
     clear hK K;refine ac' 15 ?_;refine wpAnyH_done (by kernel_rfl) ?_ _;replace XP:=af (show BX V g7 67 [I_ f,I_ c,.bool wt] from XP.o);clear hV p0 p1 p2 z0 z1 z2 hHeld hgd hb2 hb1 hS1 hS2 hS3;replace B0:=af (B0.o.trans (hb3.mono B0.o.size));replace HM:=af (HM.o.below hb3);replace X0:=af (X0.o.below hb3);clear hb0 hb3;obtain ⟨k0,k1,k2,k3⟩:=X0.o.c4;obtain ⟨p0,p1,p2⟩:V.cell? ⟨g7,0,none⟩=some (I_ f)/\V.cell? ⟨g7,1,none⟩=some (I_ c)/\V.cell? ⟨g7,2,none⟩=some (.bool wt):=⟨XP.o.cell 0,XP.o.cell 1,XP.o.cell 2⟩
     by_cases hc:code=0
     ·subst hc;obtain ⟨f,c,rfl,rfl,hf,hc4⟩:=mJ kS.o;obtain ⟨b1,FI,cap1,b2,mP,cap2,ev,q1,q2,q3,q4⟩:=HM.o.word kG.o hf hc4;obtain ⟨rfl,hl,rfl⟩:=Za ev;clear ev;have HA:=af (show ans=(Kx.word k.mem f c,true) by rw [HF.o];simp);rw [hl] at k0;have wJ:(f:Int)<12:=by omega
      have hcI:(c:Int)<4:=by omega
      generalize Kx.word k.mem f c=x at q2 q3 q4 HA;clear HF kS hl;go_wp2_with fail;go_quiet (fail);go_wp2_with fail;go_ret2;exact ⟨by rw [pI.o,HA.o];rfl,B0.o.trans ((below_drewN V _).mono B0.o.size)⟩
     have hcb:(code != 0)=true:=by simpa using hc
     have HA:=af (show ans=(0,false) by rw [HF.o];simp [hc]);clear HF kS hc;go_wp2_with fail;go_ret2;exact ⟨by rw [pI.o,HA.o];rfl,B0.o⟩

theorem nmW {B:Nat} {w W:World} (_h:TI (Below B w W)):∃ V,W=V:=⟨_,rfl⟩
theorem onK {W V u v:World} {g h s t:Nat} {l m:List Value} (d:Below W.heap.size W V) (K:TI (BX W g s l)) (C:TI (BX W h t m)) (B:TI (Below u.heap.size u W)) (D:TI (Below v.heap.size v W)):TI (BX V g s l)/\TI (BX V h t m)/\TI (Below u.heap.size u V)/\TI (Below v.heap.size v V):=⟨K.o.below d,C.o.below d,B.o.trans (d.mono B.o.size),D.o.trans (d.mono D.o.size)⟩
theorem onO {W V:World} {g s b:Nat} {l:List Value} {um ui ue uc:Value} {k:Kx.Kernel} (d:Below W.heap.size W V) (K:TI (BX W g s l)) (H:TI (KO W b um ui ue uc k)):TI (BX V g s l)/\TI (KO V b um ui ue uc k):=⟨K.o.below d,H.o.below d⟩
end Go.Proofs.YtmmjmckajcfffaaGreatDoor
namespace Kx
theorem IL {k:Kernel} (hk:Ok k) {c:Call} (hkd:c.kind=10\/c.kind=11):∃ ca:List Cached,
  cO k c=(if bK c.a 0 63=true/\0<=(au k.ah c.env.toNat).root/\(c.kind=11->bK c.b 0 9999=true)/\(walk k.mem (au k.ah c.env.toNat).root.toNat c.a.toNat).2=0 then
   (if c.kind=11 then (if (walk k.mem (au k.ah c.env.toNat).root.toNat c.a.toNat).1.2.2=false then (k,0,1) else ({ k with cache:=ca,mem:=bG k.mem (walk k.mem (au k.ah c.env.toNat).root.toNat c.a.toNat).1.1.toNat (c.a % 4).toNat c.b },0,0))
    else ({ k with cache:=ca },word k.mem (walk k.mem (au k.ah c.env.toNat).root.toNat c.a.toNat).1.1.toNat (c.a % 4).toNat,0)) else (k,0,3)) /\
  ((walk k.mem (au k.ah c.env.toNat).root.toNat c.a.toNat).2=0->bK c.a 0 63=true->ca=je k c (walk k.mem (au k.ah c.env.toNat).root.toNat c.a.toNat).1.1 (walk k.mem (au k.ah c.env.toNat).root.toNat c.a.toNat).1.2.2):=by
 refine ⟨je k c (walk k.mem (au k.ah c.env.toNat).root.toNat c.a.toNat).1.1 (walk k.mem (au k.ah c.env.toNat).root.toNat c.a.toNat).1.2.2,?_,fun _ _=>rfl⟩
 have e2:qm k c=access k c:=by rcases hkd with h | h <;> simp [qm,h]
 have key:access k c=(if bK c.a 0 63=true/\0<=(au k.ah c.env.toNat).root/\(c.kind=11->bK c.b 0 9999=true)/\(walk k.mem (au k.ah c.env.toNat).root.toNat c.a.toNat).2=0 then
   (if c.kind=11 then (if (walk k.mem (au k.ah c.env.toNat).root.toNat c.a.toNat).1.2.2=false then (k,0,1) else ({ k with cache:=je k c (walk k.mem (au k.ah c.env.toNat).root.toNat c.a.toNat).1.1 (walk k.mem (au k.ah c.env.toNat).root.toNat c.a.toNat).1.2.2,mem:=bG k.mem (walk k.mem (au k.ah c.env.toNat).root.toNat c.a.toNat).1.1.toNat (c.a % 4).toNat c.b },0,0))
    else ({ k with cache:=je k c (walk k.mem (au k.ah c.env.toNat).root.toNat c.a.toNat).1.1 (walk k.mem (au k.ah c.env.toNat).root.toNat c.a.toNat).1.2.2 },word k.mem (walk k.mem (au k.ah c.env.toNat).root.toNat c.a.toNat).1.1.toNat (c.a % 4).toNat,0)) else (k,0,3)):=by
  unfold access;split
  ·rename_i hb
   rw [if_neg];rintro ⟨h1,h2,h3,_⟩;rw [h1] at hb;simp only [Bool.not_true,Bool.false_or,Bool.or_eq_true,decide_eq_true_eq,Bool.and_eq_true,beq_iff_eq,Bool.not_eq_true'] at hb;rcases hb with hb | hb
   ·omega
   rw [h3 hb.1] at hb;cases hb.2
  rename_i hb
  simp only [Bool.or_eq_true,Bool.not_eq_true',decide_eq_true_eq,Bool.and_eq_true,beq_iff_eq,not_or,Bool.not_eq_false] at hb;obtain ⟨⟨ha,hr⟩,hv⟩:=hb;have hp:=hk.place (env:=c.env) ha;generalize placeOf k c.env c.a=P at hp ⊢;obtain ⟨⟨g,w⟩,code⟩:=P;simp only at hp ⊢
  by_cases hc:code=0
  ·obtain ⟨rfl,rfl⟩:=Prod.ext_iff.1 (hp.2 hc);simp only at *;have hbig:bK c.a 0 63=true/\0<=(au k.ah c.env.toNat).root/\(c.kind=11->bK c.b 0 9999=true)/\(walk k.mem (au k.ah c.env.toNat).root.toNat c.a.toNat).2=0:=
    ⟨ha,by omega,fun h=>by
     cases hy:bK c.b 0 9999 with
     | true=>rfl
     | false=>exact absurd ⟨h,hy⟩ hv,by rw [<-hp.1];exact hc⟩
   have hc':¬(code≠0):=by simpa using hc
   rw [if_neg hc',if_pos hbig]
   by_cases h11:c.kind=11
   ·cases hw:(walk k.mem (au k.ah c.env.toNat).root.toNat c.a.toNat).1.2.2 <;> simp [h11,hw]
   simp [h11]
  rw [if_pos hc,if_neg (fun h=>hc (by rw [hp.1];exact h.2.2.2))]
 unfold cO;rw [e2,key]
 by_cases hA:bK c.a 0 63=true/\0<=(au k.ah c.env.toNat).root/\(c.kind=11->bK c.b 0 9999=true)/\(walk k.mem (au k.ah c.env.toNat).root.toNat c.a.toNat).2=0
 ·rw [if_pos hA]
  by_cases h11:c.kind=11
  ·rw [if_pos h11]
   by_cases hw:(walk k.mem (au k.ah c.env.toNat).root.toNat c.a.toNat).1.2.2=false
   ·rw [if_pos hw];simp
   rw [if_neg hw];simp
  rw [if_neg h11];simp
 rw [if_neg hA];simp
theorem callK_done {k:Kernel} {c:Call} (h:(cO k c).2.2=0):qm k c=cO k c:=by
 unfold cO at *;split
 ·rename_i h1;rw [if_pos h1] at h;exact absurd h h1
 rfl
theorem Nv {k:Kernel} (hk:Ok k) {env:Int} (he:bK env 0 2=true) (ad:Int):sees k env ad=(if bK ad 0 63=true/\0<=(au k.ah env.toNat).root/\(walk k.mem (au k.ah env.toNat).root.toNat ad.toNat).2=0 then
  (word k.mem (walk k.mem (au k.ah env.toNat).root.toNat ad.toNat).1.1.toNat (ad % 4).toNat,true) else (0,false)):=by
 unfold sees;rw [nN.2 hk,he]
 cases ha:bK ad 0 63 with
 | false=>simp
 | true =>
  have h1:=ay.1 ha
  by_cases hr:(au k.ah env.toNat).root<0
  ·have hr':¬ 0<=(au k.ah env.toNat).root:=by omega
   simp [hr,hr']
  rw [decide_eq_false hr];have hr':0<=(au k.ah env.toNat).root:=by omega
  have hw:=fun p h=>v_ (m:=k.mem) (root:=(au k.ah env.toNat).root.toNat) (ad:=ad.toNat) (p:=p) h
  generalize walk k.mem (au k.ah env.toNat).root.toNat ad.toNat=W at hw ⊢;obtain ⟨⟨f,a,b⟩,code⟩:=W
  by_cases hc:code=0
  ·subst hc;obtain ⟨t,f',a',b',_,_,hp,_⟩:=hw _ rfl;simp only [Prod.mk.injEq] at hp;have e:a.toNat=(ad % 4).toNat:=by rw [hp.2.1];omega
   simp [hr',e]
  simp [hc]
theorem load_law {k:Kernel} (hk:Ok k) {c:Call} (he:bK c.env 0 2=true) (h10:c.kind=10) :
  ((cO k c).2.2==0)=(sees k c.env c.a).2/\((sees k c.env c.a).2=true->(sees k c.env c.a).1=(cO k c).2.1)/\(cO k c).1.mem=k.mem/\(cO k c).1.ag=k.ag/\(cO k c).1.ah=k.ah:=by
 obtain ⟨ca,h,_⟩:=IL hk (.inl h10);rw [h,Nv hk he];have h11:¬ c.kind=11:=by omega
 by_cases hA:bK c.a 0 63=true/\0<=(au k.ah c.env.toNat).root/\(walk k.mem (au k.ah c.env.toNat).root.toNat c.a.toNat).2=0
 ·rw [if_pos hA,if_pos ⟨hA.1,hA.2.1,fun h=>absurd h h11,hA.2.2⟩,if_neg h11]
  simp
 rw [if_neg hA,if_neg (fun h=>hA ⟨h.1,h.2.1,h.2.2.2⟩)];simp
end Kx
namespace Go.Proofs.YtmmjmckajcfffaaGreatDoor
open Go.RowKit Kx

theorem FnLoad_c (a:Option Addr) (len0 cap0:Nat) (zr:List Int) (w:World) (h0:abT .u8 w a len0 cap0 zr) :
  Calls prog 9 #[.slice a len0 cap0] w (aez w):=by
 by_cases hl0:len0<=1048576
 ·have hI0:¬ (1048576:Int)<(len0:Int):=by omega
  have Hr:=af (abT.rb h0);clear h0;go_enter func9,ntmps9;go_wp2_with fail;clear hI0;refine (adi _ _ _ Hr.o).mono ?_;rintro en w1 ⟨k,⟨bQ,JF,ca,cb,cc,bg⟩,_,_,_,_,rfl,hsl,hs,hnm,hcm,hk,hb⟩;obtain ⟨⟨a0,n0,m0,rfl⟩,⟨a1,n1,m1,rfl⟩,⟨a2,n2,m2,rfl⟩,⟨a3,n3,m3,rfl⟩⟩:=hsl;unfold dW;obtain ⟨u1,hu1⟩:∃ V,w1.alloc (.cells #[.slice none 0 0,.slice none 0 0,.slice none 0 0,.slice none 0 0] 28)=V:=⟨_,rfl⟩;obtain ⟨u2,hu2⟩:∃ V,u1.alloc (.cells #[I_ 0,I_ 0,I_ 0,I_ 0,I_ 0,.string ⟨#[]⟩] 30)=V:=⟨_,rfl⟩;have Bu1:Below w1.heap.size w1 u1:=hu1 ▸ dm;have Bu2:Below u1.heap.size u1 u2:=hu2 ▸ dm;have su_:w1.heap.size<u1.heap.size:=by rw [<-hu1];simp
  have YK_:=af (show BX u2 w1.heap.size 28 [.slice none 0 0,.slice none 0 0,.slice none 0 0,.slice none 0 0] from (hu1 ▸ BX.new w1 _ _:BX u1 _ _ _).below Bu2);have YC_:=af (show BX u2 u1.heap.size 30 [I_ 0,I_ 0,I_ 0,I_ 0,I_ 0,.string ⟨#[]⟩] from hu2 ▸ BX.new u1 _ _);have BU_:=af (Bu1.trans (Bu2.mono Bu1.size));have p0:=YK_.o.c4;obtain ⟨q0,q1,q2,q3⟩:=YK_.o.f4;have Y1_:=BX.iq (Nat.ne_of_gt su_) [.slice a0 n0 m0,.slice a1 n1 m1,.slice a2 n2 m2,.slice a3 n3 m3] 0 YC_.o;have Y0_:=YK_.o.sets [.slice a0 n0 m0,.slice a1 n1 m1,.slice a2 n2 m2,.slice a3 n3 m3] rfl;rw [<-afA] at Y0_ Y1_;have Y2:=Y1_.sets [I_ bQ,I_ JF,I_ ca,I_ cb,I_ cc,.string bg] rfl;have Y3_:=BX.iq (Nat.ne_of_lt su_) [I_ bQ,I_ JF,I_ ca,I_ cb,I_ cc,.string bg] 0 Y0_
  have BF:=dP (Nat.le_of_lt su_) [I_ bQ,I_ JF,I_ ca,I_ cb,I_ cc,.string bg] 0 (dP aW [.slice a0 n0 m0,.slice a1 n1 m1,.slice a2 n2 m2,.slice a3 n3 m3] 0 BU_.o);rw [<-afA] at BF;rw [<-afB] at Y2 Y3_ BF;obtain ⟨d0,d1,d2,d3,d4,d5⟩:=Y1_.c6;have f0:=Y1_.frozen 0;have f1:=Y1_.frozen 1;have f2:=Y1_.frozen 2;have f3:=Y1_.frozen 3;have f4:=Y1_.frozen 4;have f5:=Y1_.frozen 5;have e0:=Y3_.c4;have g0:=Y2.c6;have HY2:=af Y2;have HY3:=af Y3_;have HBF:=af BF;clear Y0_ Y1_ Y2 Y3_ BF YK_ YC_ BU_ Bu1 Bu2;go_wp2_with fail;clear hu1 hu2 p0 q0 q1 q2 q3 d0 d1 d2 d3 d4 d5 f0 f1 f2 f3 f4 f5 e0 g0;obtain ⟨w3,hw3⟩:=nmW HBF;rw [hw3] at HY2 HY3 HBF ⊢;have XK_:=HY3;have XC_:=HY2;have TP:=HBF.o;have Bw:=af (hb.trans (TP.mono hb.size));have HR:=af (fun W (h:Below w3.heap.size w3 W)=>(hk.below TP).below h)
  have Hs:=af hs;have HI:=af (fun W (h:Below w3.heap.size w3 W)=>adb k ⟨bQ,JF,ca,cb,cc,bg⟩ _ _ _ _ W (HR.o W h) hs hnm hcm)
  have HS:=af (fun W (h:Below w3.heap.size w3 W)=>ac9 k ⟨bQ,JF,ca,cb,cc,bg⟩ _ _ _ _ W (HR.o W h) hs hnm)
  have Hnm:=af hnm;have Hcm:=af hcm;obtain ⟨r,hr⟩:=XP (QH k ⟨bQ,JF,ca,cb,cc,bg⟩);have HX:=af hr;rw [hr] at HI HS;unfold dW at HI HS;have B3:=af (Below.refl w3.heap.size w3);clear hs hnm hcm hk hb TP Hr hr hw3 HY2 HY3 HBF;refine (HI.o w3 B3.o).mono ?_;rintro en w4 ⟨_,_,_,_,rfl,hko,hb⟩;obtain ⟨⟨b0,q0,z0,rfl⟩,⟨b1,q1,z1,rfl⟩,⟨b2,q2,z2,rfl⟩,⟨b3,q3,z3,rfl⟩⟩:=hko.sl;obtain ⟨XK_,XC_,Bw,B3⟩:=onK hb XK_ XC_ Bw B3;obtain ⟨w5,hw5⟩:∃ V,w4.alloc (.cells #[.slice b0 q0 z0,.slice b1 q1 z1,.slice b2 q2 z2,.slice b3 q3 z3] 28)=V:=⟨_,rfl⟩;have Bw5:Below w4.heap.size w4 w5:=hw5 ▸ dm;have XO_:=af (show BX w5 w4.heap.size 28 [.slice b0 q0 z0,.slice b1 q1 z1,.slice b2 q2 z2,.slice b3 q3 z3] from hw5 ▸ BX.new w4 _ _);have HO:=af (hko.below Bw5);obtain ⟨XK_,XC_,Bw,B3⟩:=onK Bw5 XK_ XC_ Bw B3;clear hko hb Bw5;have p0:=XK_.o.c4;have c0:=XC_.o.c6
  go_wp2_with fail
  try rw [hw5]
  clear hw5 p0;clear c0;refine (HS.o w5 B3.o).mono ?_;rintro en w6 ⟨_,_,_,_,rfl,hko,hb⟩;obtain ⟨⟨d0,x0,y0,rfl⟩,⟨d1,x1,y1,rfl⟩,⟨d2,x2,y2,rfl⟩,⟨d3,x3,y3,rfl⟩⟩:=hko.sl;obtain ⟨XK_,XC_,Bw,B3⟩:=onK hb XK_ XC_ Bw B3;obtain ⟨XO_,HO⟩:=onO hb XO_ HO;obtain ⟨w7,hw7⟩:∃ V,w6.alloc (.cells #[.slice d0 x0 y0,.slice d1 x1 y1,.slice d2 x2 y2,.slice d3 x3 y3] 28)=V:=⟨_,rfl⟩;have Bw7:Below w6.heap.size w6 w7:=hw7 ▸ dm;have XW_:=af (show BX w7 w6.heap.size 28 [.slice d0 x0 y0,.slice d1 x1 y1,.slice d2 x2 y2,.slice d3 x3 y3] from hw7 ▸ BX.new w6 _ _);have HW:=af (hko.below Bw7);obtain ⟨XK_,XC_,Bw,B3⟩:=onK Bw7 XK_ XC_ Bw B3;obtain ⟨XO_,HO⟩:=onO Bw7 XO_ HO;clear hko hb Bw7 HI HS;have o0:=XO_.o.c4;have t0:=XW_.o.c4;go_wp2_with fail
  try rw [hw7]
  clear hw7 o0;clear t0;refine (adE r.1 _ _ _ _ _ _ _ _ _ HO.o.rk HW.o.rk).mono ?_;rintro en w8 ⟨rfl,hb⟩;obtain ⟨XK_,XC_,Bw,B3⟩:=onK hb XK_ XC_ Bw B3;obtain ⟨XO_,HO⟩:=onO hb XO_ HO;obtain ⟨XW_,HW⟩:=onO hb XW_ HW;clear hb
  by_cases h5:r.2.2=5
  ·have h5b:(r.2.2==5)=true:=by simpa using h5
   clear h5;have c0:=XC_.o.c6;have o0:=XO_.o.c4;have t0:=XW_.o.c4;go_wp2_with fail;refine (adE r.1 _ _ _ _ _ _ _ _ _ HO.o.rk HW.o.rk).mono ?_;rintro en w9 ⟨rfl,hb⟩;obtain ⟨XK_,XC_,Bw,B3⟩:=onK hb XK_ XC_ Bw B3;obtain ⟨XO_,HO⟩:=onO hb XO_ HO;obtain ⟨XW_,HW⟩:=onO hb XW_ HW;clear hb o0;clear t0 c0;go_wp2_with fail;go_ret;exact ⟨rfl,Bw.o⟩
  have h5b:(r.2.2==5)=false:=by simpa using h5
  have H5:=af h5;clear h5
  by_cases hk:bQ=10
  case neg =>
   have hkb:(bQ != 10)=true:=by simpa using hk
   clear hk;have c0:=XC_.o.c6;have o0:=XO_.o.c4;have t0:=XW_.o.c4;go_wp2_with fail;refine (adE r.1 _ _ _ _ _ _ _ _ _ HO.o.rk HW.o.rk).mono ?_;rintro en w9 ⟨rfl,hb⟩;obtain ⟨XK_,XC_,Bw,B3⟩:=onK hb XK_ XC_ Bw B3;obtain ⟨XO_,HO⟩:=onO hb XO_ HO;obtain ⟨XW_,HW⟩:=onO hb XW_ HW;clear hb o0;clear t0 c0;go_wp2_with fail;go_ret;exact ⟨rfl,Bw.o⟩
  subst hk;have HP:=af (adQ (k:=k) (c:=⟨10,JF,ca,cb,cc,bg⟩) (by rw [HX.o];exact H5.o));have HC:=af (show Kx.cO k ⟨10,JF,ca,cb,cc,bg⟩=r from HP.o.2.2.1.symm.trans HX.o);have Yy:=af (Kx.nN.1 HP.o.1);obtain ⟨hq1,hq2,D_,lL,hr14⟩:=Kx.load_law Yy.o (c:=⟨10,JF,ca,cb,cc,bg⟩) HP.o.2.1 rfl;rw [HC.o] at hq1 hq2 D_ lL hr14;simp only at hq1 hq2;have HK:=af (oG k JF ca _ _ _ _ w8 (HR.o w8 B3.o) Hs.o);obtain ⟨⟨sx,sb⟩,hsv⟩:∃ s,Kx.sees k JF ca=s:=⟨_,rfl⟩;rw [hsv] at hq1 hq2 HK;simp only at hq1 hq2;have fJ:=af D_;have H11:=af lL;have H14:=af hr14;clear hsv D_ lL hr14;have p0:=XK_.o.c4;have c0:=XC_.o.c6;go_wp2_with fail;refine HK.o.mono ?_;rintro en w9 ⟨rfl,hb⟩;obtain ⟨XK_,XC_,Bw,B3⟩:=onK hb XK_ XC_ Bw B3;obtain ⟨XO_,HO⟩:=onO hb XO_ HO;clear p0 c0 hb HK;obtain ⟨w10,hw10⟩:∃ V,w9.alloc (.cells #[.slice b0 q0 z0,.slice b1 q1 z1,.slice b2 q2 z2,.slice b3 q3 z3] 28)=V:=⟨_,rfl⟩;have B10:=af (show Below w9.heap.size w9 w10 from hw10 ▸ dm);have DN:=af (show BX w10 w9.heap.size 28 [.slice b0 q0 z0,.slice b1 q1 z1,.slice b2 q2 z2,.slice b3 q3 z3] from hw10 ▸ BX.new w9 _ _);have XK10:=af (XK_.o.below B10.o);have X11:=af (show BX (w10.setCell ⟨w9.heap.size,3,none⟩ (.slice a3 n3 m3)) w9.heap.size 28 [.slice b0 q0 z0,.slice b1 q1 z1,.slice b2 q2 z2,.slice a3 n3 m3] from DN.o.set 3 _);have XK11:=af (show BX (w10.setCell ⟨w9.heap.size,3,none⟩ (.slice a3 n3 m3)) w1.heap.size 28 [.slice a0 n0 m0,.slice a1 n1 m1,.slice a2 n2 m2,.slice a3 n3 m3] from XK10.o.other (Nat.ne_of_lt XK_.o.lt) 3 _);have B11:=af (B10.o.setCell (p:=⟨w9.heap.size,3,none⟩) aW (.slice a3 n3 m3))
  have HRk:=af (HR.o (w10.setCell ⟨w9.heap.size,3,none⟩ (.slice a3 n3 m3)) (B3.o.trans (B11.o.mono B3.o.size)));have HYk:=af (show RK (w10.setCell ⟨w9.heap.size,3,none⟩ (.slice a3 n3 m3)) _ _ _ _ k from ⟨by have:=(HO.o.below B11.o).rk.m;rw [fJ.o] at this;exact this,by have:=(HO.o.below B11.o).rk.i;rw [H11.o] at this;exact this,by have:=(HO.o.below B11.o).rk.e;rw [H14.o] at this;exact this,HRk.o.c⟩);have o0:=XO_.o.c4;have p0:=XK10.o.c4;have f3:=DN.o.frozen 3;obtain ⟨x0,x1,x2,x3⟩:=DN.o.c4;obtain ⟨y0,y1,y2,y3⟩:=X11.o.c4;obtain ⟨d0,d1,d2,d3⟩:=XK11.o.c4
  cases sb
  all_goals (try (have hxv:(sx==r.2.1)=true:=by rw [hq2 rfl];simp))
  all_goals (
   clear hq2;go_wp2_with fail;obtain ⟨UR,hw11⟩:∃ V,w10.setCell ⟨w9.heap.size,3,none⟩ (.slice a3 n3 m3)=V:=⟨_,rfl⟩;rw [hw11] at B11 HRk HYk ⊢;refine (adE k _ _ _ _ _ _ _ _ _ HYk.o HRk.o).mono ?_;rintro en w12 ⟨rfl,hb⟩;clear hw11 hw10 o0 p0 f3 x0 x1 x2 x3 y0 y1 y2 y3 d0 d1 d2 d3 X11 XK11;go_wp2_with fail;go_ret;exact ⟨rfl,Bw.o.trans ((B11.o.trans (hb.mono B11.o.size)).mono Bw.o.size)⟩)
 have hI0:(1048576:Int)<(len0:Int):=by omega
 clear h0;go_enter func9,ntmps9;go_wp2_with fail;go_ret;exact ⟨rfl,Below.refl _ _⟩
theorem qIn:(Rows.fnLoadRow.inPlace==Tryz.pinned.checked.prog.inPlace 9)=true:=by kernel_rfl
theorem qUn:(Rows.fnLoadRow.unfollowed==Tryz.pinned.checked.prog.unfollowed 9)=true:=by kernel_rfl
theorem qRe:(Rows.fnLoadRow.recurses==Tryz.pinned.checked.prog.recurses 9)=true:=by kernel_rfl
theorem qNa:(Rows.fnLoadRow.named==Tryz.pinned.checked.prog.varsNamed 9)=true:=by kernel_rfl
end Go.Proofs.YtmmjmckajcfffaaGreatDoor
