/- Contracts: the reference's l22Set. (printed by kc15.py) -/
import Derived.Test.YthcmmoibpgcgaaaGreatDoorKCb
set_option maxHeartbeats 4000000
set_option maxRecDepth 100000
set_option linter.all false
open List renaming getElem?_cons_zero->A1,getElem?_cons_succ->A2,getElem_mem->A3,take_length->A4
open Nat renaming le_trans->A5,lt_of_lt_of_le->A6
open Go.Value renaming slice->A0
open Go.Proofs.Tryz
namespace Go.Proofs.YthcmmoibpgcgaaaGreatDoor
open Go.RowKit Kx
theorem J7 (k:Kx.Kernel) (c:Kx.Call) (e:Nat) (base:Nat) (um ui ue uc:Value) (w:World) (h:KO w base um ui ue uc k) (hbase:base<=w.heap.size) (hok:az k=true) (hs:iQ k) (hce:c.env=e) (he:e<3) :
  Calls prog 224 #[.agg #[um,ui,ue,uc],dW c] w (vk base w (Kx.lQ k c)):=by
 obtain ⟨bQ,JF,ca,cb,cc,bg⟩:=c;simp only at hce;subst hce;obtain ⟨am,cm,ai,ci,ae,ce,ac,cq,w0,w1,w2,rfl,rfl,rfl,rfl,hw0,hw1,hw2,X0,X1,X2,Bw,HO,s0,s1,s2⟩:=pF h hbase bQ e ca cb cc bg;obtain ⟨hmo,jI,h12,hco,h3,hro⟩:=aI hok;have kG:=af hmo;have MX:=af hro;have nM:=af jI;have fJ:=af h12;have H3:=af h3;have bF:=af hok;have Hs:=af hs;have aC:=af hbase;clear h hok hs hmo jI h12 hco h3 hro;have HV:=af (show Kx.lQ k ⟨bQ,e,ca,cb,cc,bg⟩=(if aO k ⟨bQ,e,ca,cb,cc,bg⟩ 0≠0 then (k,0,aO k ⟨bQ,e,ca,cb,cc,bg⟩ 0)
  else if qJ k ⟨bQ,e,ca,cb,cc,bg⟩ then (k,0,3)
  else if !((kw k ca).all fun e=>Kx.allowed k.ag (Kx.behind k cc) (au k.ah e).aB) then (k,0,1)
  else if lJ k ⟨bQ,e,ca,cb,cc,bg⟩ then (k,0,1)
  else (⟨Kx.bG k.mem ca.toNat cb.toNat cc,aP (aP k.ag (Kx.word k.mem ca.toNat cb.toNat) (-1)) cc 1,k.ah,(kw k ca).foldl (fun (ca:List Kx.Cached) (e:Nat)=>fP ca (e:Int)) k.cache⟩,0,0)) from rfl)
 have HC:=af (sZ k ⟨bQ,e,ca,cb,cc,bg⟩ e 0 _ _ _ _ w2 HO.o.rk fJ.o H3.o rfl he (.inr rfl));obtain ⟨p0,p1,p2,p3⟩:=X0.o.c4;have c0:=X1.o.c6;unfold dW;go_enter func224,ntmps224;go_wp2_with fail;refine HC.o.mono ?_;rintro en w3 ⟨rfl,hb⟩;clear HC p0 p1 p2 p3;clear c0;obtain ⟨X0,X1,X2,HO,Bw,zz⟩:=ru hb aC.o s0 X0 X1 X2 HO Bw;clear hb zz
 by_cases hc:aO k ⟨bQ,e,ca,cb,cc,bg⟩ 0=0
 case neg =>
  have HF:=af (show Kx.lQ k ⟨bQ,e,ca,cb,cc,bg⟩=(k,0,aO k ⟨bQ,e,ca,cb,cc,bg⟩ 0) by rw [HV.o,if_pos hc]);have hcb:(aO k ⟨bQ,e,ca,cb,cc,bg⟩ 0 != 0)=true:=by simpa using hc
  clear HV;generalize aO k ⟨bQ,e,ca,cb,cc,bg⟩ 0=code at hc hcb HF ⊢;obtain ⟨p0,p1,p2,p3⟩:=X0.o.c4;have r0:=X2.o.c4;have jh:=X2.o.f4;go_wp2_with fail;obtain ⟨e0,e1,e2,e3,hB4,hK4⟩:=fG X2.o rfl Bw.o (by have:=aC.o;omega) (A0 am k.mem.length cm) (A0 ai k.ag.length ci) (A0 ae k.ah.length ce) (A0 ac k.cache.length cq);refine af7 (by simp [results,results224,go_sem,e0,e1,e2,e3]<;>rfl) ?_;exact jY HF.o hc hB4
 replace HV:=af (by have:=HV.o;rw [if_neg (by rw [hc];simp)] at this;exact this);rw [hc];obtain ⟨f,hf,dG,hft⟩:=zQ hc;simp only at hf;subst hf;rw [show ((f:Int)).toNat=f from rfl] at HV;clear hc;have wJ:(f:Int)<(k.ag.length:Int):=by have:=fJ.o;omega
 obtain ⟨bi,oi,ci',ev,zN,g0,g1,g2⟩:=bV.at HO.o.i.rs (k:=f) (by have:=fJ.o;omega);obtain ⟨rfl,_,rfl⟩:=Za ev;clear ev;obtain ⟨p0,p1,p2,p3⟩:=X0.o.c4;have c0:=X1.o.c6;go_wp2_with fail;refine (bM _ _).mono ?_;rintro en w4 ⟨rfl,rfl⟩;unfold Eg;go_upto_region 5 with fail;have HB:=af (show qJ k ⟨bQ,e,f,cb,cc,bg⟩=(!Kx.bK cb 0 3||dY cc==2||(match Kx.entry cc with | none=>false | some (g,_)=>(Kx.inf k.ag g).kind != (Kx.inf k.ag f).kind - 1)) from rfl)
 obtain ⟨kf,Np⟩:=XP ((Kx.inf k.ag f).kind);rw [Np] at g0 HB hft;have aan:2<=kf/\kf<=3:=by simp only [aX,Bool.or_eq_true,beq_iff_eq] at hft;omega
 have hkw:IntKind.i64.wrap (kf - 1)=kf - 1:=by rw [IntKind.wrap_i64];omega
 obtain ⟨sb,hsb⟩:=XP (qJ k ⟨bQ,e,f,cb,cc,bg⟩);rw [hsb] at HB;clear hft;go_cut [8,10,60] from 17 (fun s8 s10 s wx=>s8=I_ (FK cc)/\s10=.bool (Ik cc)/\s=.bool sb/\TI (Below w3.heap.size w3 wx))
 case first =>
  cases hib:Kx.bK cb 0 3 with
  | false =>
   have Io:=af hib;have HB:=af (show sb=true by rw [HB.o,hib];rfl);clear hib;go_quiet ((go_at_call 56;exact Calls.quiet_of_same ((tq _ _ _ _).mono fun _ _ ⟨he,hw⟩=>⟨by rw [he,show bK cb 0 3=false from Io.o],hw.symm⟩)))
   go_wp2_with fail;go_meet;exact ⟨rfl,rfl,by rw [HB.o],below_drewN _ _⟩
  | true =>
   cases Tv:(dY cc==2) with
   | true =>
    have Io:=af hib;have HB:=af (show sb=true by rw [HB.o,hib,Tv];rfl);have Tz:=af (show dY cc=2 by simpa using Tv);clear hib Tv;go_quiet (first | (go_at_call 56;exact Calls.quiet_of_same ((tq _ _ _ _).mono fun _ _ ⟨he,hw⟩=>⟨by rw [he,show bK cb 0 3=true from Io.o],hw.symm⟩)) | (go_at_call 279;exact Calls.quiet_of_same ((jA _ _).mono fun _ _ ⟨he,hw⟩=>⟨by rw [he,Tz.o],hw.symm⟩)))
    go_wp2_with fail;go_meet;exact ⟨rfl,rfl,by rw [HB.o],below_drewN _ _⟩
   | false =>
    cases hen:Kx.entry cc with
    | none =>
     have Io:=af hib;have HB:=af (show sb=false by rw [HB.o,hib,Tv,hen];rfl);have oV:=af (uB hen);rw [oV.o];clear hib hen;go_quiet (first | (go_at_call 56;exact Calls.quiet_of_same ((tq _ _ _ _).mono fun _ _ ⟨he,hw⟩=>⟨by rw [he,show bK cb 0 3=true from Io.o],hw.symm⟩)) | (go_at_call 279;exact Calls.quiet_of_same ((jA _ _).mono fun _ _ ⟨he,hw⟩=>⟨he,hw.symm⟩)))
     go_wp2_with fail;go_meet;exact ⟨rfl,by rw [oV.o],by rw [HB.o],below_drewN _ _⟩
    | some pr =>
     obtain ⟨fr,bw⟩:=pr;have hfr:=dU hen;have Io:=af hib;have HB:=af (show sb=((Kx.inf k.ag fr).kind != kf - 1) by rw [HB.o,hib,Tv,hen];simp);have oV:=af (uC hen);rw [oV.o.1,oV.o.2];clear hib hen;have VZ:(fr:Int)<(k.ag.length:Int):=by have:=fJ.o;omega
     obtain ⟨_,_,_,ev,_,q0,_,_⟩:=bV.at HO.o.i.rs (k:=fr) (by have:=fJ.o;omega);obtain ⟨⟨rfl,rfl,_⟩,_,rfl⟩:=Zb ev;clear ev;generalize (Kx.inf k.ag fr).kind=kr at q0 HB;go_quiet (first | (go_at_call 56;exact Calls.quiet_of_same ((tq _ _ _ _).mono fun _ _ ⟨he,hw⟩=>⟨by rw [he,show bK cb 0 3=true from Io.o],hw.symm⟩)) | (go_at_call 279;exact Calls.quiet_of_same ((jA _ _).mono fun _ _ ⟨he,hw⟩=>⟨he,hw.symm⟩)))
     go_wp2_with fail;go_meet;exact ⟨by rw [oV.o.2],by rw [oV.o.1],by rw [HB.o],below_drewN _ _⟩
 case rest =>
  obtain ⟨rfl,rfl,rfl,Dt⟩:=hcut;have hb:=Dt.o;clear Dt g0 g1 g2 p0 p1 p2 p3 c0;obtain ⟨X0,X1,X2,HO,Bw,zz⟩:=ru hb aC.o s0 X0 X1 X2 HO Bw;clear hb zz;have HV:=af (show Kx.lQ k ⟨bQ,e,f,cb,cc,bg⟩=(if sb then (k,0,3) else if !((kw k f).all fun e=>Kx.allowed k.ag (Kx.behind k cc) (au k.ah e).aB) then (k,0,1)
   else if lJ k ⟨bQ,e,f,cb,cc,bg⟩ then (k,0,1)
   else (⟨Kx.bG k.mem f cb.toNat cc,aP (aP k.ag (Kx.word k.mem f cb.toNat) (-1)) cc 1,k.ah,(kw k f).foldl (fun (ca:List Kx.Cached) (e:Nat)=>fP ca (e:Int)) k.cache⟩,0,0)) by rw [<-hsb];exact HV.o)
  cases sb with
  | true =>
   have HF:=af (show Kx.lQ k ⟨bQ,e,f,cb,cc,bg⟩=(k,0,3) by rw [HV.o,if_pos rfl]);clear HV HB hsb;obtain ⟨p0,p1,p2,p3⟩:=X0.o.c4;have r0:=X2.o.c4;have jh:=X2.o.f4;go_wp2_with fail;exact afj HF.o X2.o Bw.o aC.o fun _ a b c d=>by simp [results,results224,go_sem,a,b,c,d]
  | false =>
   have HV:=af (by have:=HV.o;rw [if_neg (by decide)] at this;exact this);obtain ⟨us,hus⟩:=XP (kw k f);obtain ⟨bs,hbs⟩:=XP (Kx.behind k cc);have V_:=af (show ∀ x ∈ bs,x<k.ag.length by rw [fJ.o,<-hbs];exact Il);have hul:us.length<=3:=by rw [<-hus,<-H3.o];exact A5 (List.length_filter_le _ _) (by simp)
   have MB:=af (show ∀ x ∈ us,x<3 by rw [<-hus,<-H3.o];exact J6);have We:=af (Dv k cc _ _ _ _ wc HO.o.rk kG.o fJ.o);rw [hus,hbs] at HV;rw [hbs] at We;obtain ⟨p0,p1,p2,p3⟩:=X0.o.c4;have c0:=X1.o.c6;go_wp2_with fail;refine We.o.mono ?_;rintro en w5 ⟨u5,rfl,zK,hb⟩;obtain ⟨a5,k5,rfl⟩:=Gu zK;have O5:=af zK;have zu:=af X0.o.lt;clear zK We p0 p1 p2 p3;clear c0;have z5:=af hb.size;obtain ⟨X0,X1,X2,HO,Bw,zz⟩:=ru hb aC.o s0 X0 X1 X2 HO Bw;clear hb zz;have Wh:=af (E8 k f _ _ _ _ w5 HO.o.rk kG.o MX.o H3.o);rw [hus] at Wh;obtain ⟨p0,p1,p2,p3⟩:=X0.o.c4;have c0:=X1.o.c6;go_wp2_with fail;refine Wh.o.mono ?_;rintro en w6 ⟨u6,rfl,yI,hb⟩;obtain ⟨a6,k6,rfl⟩:=Gu yI;replace O5:=af (O5.o.below hb);have O6:=af yI;clear yI Wh p0 p1 p2 p3 c0;obtain ⟨X0,X1,X2,HO,Bw,zz⟩:=ru hb aC.o s0 X0 X1 X2 HO Bw;clear hb zz;go_wp2_with fail;go_loopw [13] (fun i wr=>∃ (j:Nat) (aj:Option Addr) (cj:Nat),i=I_ j/\j<=us.length/\TI (∀ x ∈ us.take j,Kx.allowed k.ag bs (au k.ah x).aB=true)/\TI (M_ w wr base w.heap.size w0.heap.size w1.heap.size (A0 am k.mem.length cm) (A0 (some ⟨bi,oi,none⟩) k.ag.length ci) (A0 ae k.ah.length ce) ((A0 aj (iE k.cache us j).length cj)) [I_ bQ,I_ e,I_ f,I_ cb,I_ cc,.string bg] [A0 none 0 0,A0 none 0 0,A0 none 0 0,A0 none 0 0] { k with cache:=iE k.cache us j })/\TI (OI wr wc.heap.size (A0 a5 bs.length k5) (fU bs))/\TI (OI wr w5.heap.size (A0 a6 us.length k6) (fU us))) (fun i _=>us.length - (intOf i).toNat)
   case atStart=>exact ⟨0,ac,cq,rfl,Nat.zero_le _,af (fun x hx=>by cases hx),af ⟨X0.o,X1.o,X2.o,HO.o,Bw.o⟩,O5,O6⟩
   case round =>
    clear X0 X1 X2 HO Bw O5 O6;obtain ⟨j,aj,cj,rfl,hj,hall,hst,H5,H6⟩:=hrel;obtain ⟨X0,X1,X2,HO,Bw⟩:=hst.o.parts;clear hst
    by_cases hlt:j<us.length
    ·have Q5:(j:Int)<(us.length:Int):=by omega
     obtain ⟨bu,ou,cu,ev,Ip,q0⟩:=H6.o.ri.at (k:=j) (by rw [aQ];exact hlt);rw [aQ] at ev;obtain ⟨rfl,_,rfl⟩:=Za ev;clear ev;have hge:wc.heap.size<=bu:=A5 z5.o (H6.o.lt bu rfl).1;have hbg:w.heap.size≠bu:=by have:=zu.o;omega
     have J3:(fU us)[j]?=some ((us[j]:Nat):Int):=by simp [fU,hlt]
     rw [(List.getElem_eq_iff _).2 J3] at q0;have hx3:=MB.o _ (A3 hlt);have Dc:=af (show us.take (j+1)=us.take j ++ [us[j]] by rw [List.take_succ_eq_append_getElem hlt]);have Qa:=af (BU k.cache us hlt);have Qb:=af (A3 hlt);clear J3;generalize us[j]=x at q0 hx3 Dc Qa Qb;have Oa:(x:Int)<(k.ah.length:Int):=by have:=H3.o;omega
     obtain ⟨be,oe,VN,ur,ev,hbel,q1,_,hr⟩:=HO.o.e.re.at (k:=x) (by show x<k.ah.length;have:=H3.o;omega);obtain ⟨rfl,_,rfl⟩:=Za ev;clear ev;obtain ⟨ar,cr,rfl,_,_⟩:=RS.val hr;have Hr:=af (show dK wr _ (au k.ah x).aB from hr);clear hr;change wr.cell? _=some (A0 ar (au k.ah x).aB.length cr) at q1;obtain ⟨rs,hrs⟩:=XP ((au k.ah x).aB);rw [hrs] at Hr q1;have Wi:=af hrs;clear hrs;obtain ⟨p0,p1,p2,p3⟩:=X0.o.c4;go_wp2_with fail;go_still_tail 12,(by kernel_rfl)
     obtain ⟨W4,PY⟩:=XP wr.drew;have hb:Below wr.heap.size wr W4:=PY ▸ Below.bz fZ;change wpList _ _ _ _ _ wr.drew;rw [PY];clear PY;have q0:=(hb.cell (p:=⟨bu,ou+j,none⟩) Ip).trans q0;replace Hr:=af (RS.below Hr.o hb);have Ip:=A6 Ip hb.size;clear p0 p1 p2 p3 q1;obtain ⟨X0,X1,X2,HO,Bw,zz⟩:=ru hb aC.o s0 X0 X1 X2 HO Bw;replace H5:=af (H5.o.below hb);replace H6:=af (H6.o.below hb);clear hb zz;have HA:=af (jw k.ag bs rs _ _ _ W4 HO.o.i.rs H5.o.ri Hr.o V_.o);go_wp2_with fail;refine HA.o.mono ?_;rintro en w7 ⟨rfl,hb⟩;clear HA;have S7:=(hb.cell (p:=⟨bu,ou+j,none⟩) Ip).trans q0;have YB:=A6 Ip hb.size;clear Hr q0 Ip;obtain ⟨X0,X1,X2,HO,Bw,zz⟩:=ru hb aC.o s0 X0 X1 X2 HO Bw;replace H5:=af (H5.o.below hb);replace H6:=af (H6.o.below hb);clear hb zz
     cases hal:Kx.allowed k.ag bs rs with
     | false =>
      have HF:=af (show Kx.lQ k ⟨bQ,e,f,cb,cc,bg⟩=(k,0,1) by
       rw [HV.o,if_pos];rw [Bool.not_eq_true',List.all_eq_false];exact ⟨x,Qb.o,by rw [Wi.o,hal];decide⟩)
      clear HV hal Qb Dc Qa S7;obtain ⟨p0,p1,p2,p3⟩:=X0.o.c4;have r0:=X2.o.c4;have jh:=X2.o.f4;go_wp2_with fail;exact afj HF.o X2.o Bw.o aC.o fun _ a b c d=>by simp [results,results224,go_sem,a,b,c,d]
     | true =>
      have Dk:=af (show Kx.allowed k.ag bs (au k.ah x).aB=true by rw [Wi.o];exact hal);clear hal Wi;have p3:=X0.o.cell 3;simp only [A1,A2] at p3;go_wp2_with fail;go_still_tail 6,(by kernel_rfl)
      obtain ⟨W7,Iq⟩:=XP w7.drew;have hb:Below w7.heap.size w7 W7:=Iq ▸ Below.bz fZ;change wpList _ _ _ _ _ w7.drew;rw [Iq];clear Iq S7 p3;obtain ⟨X0,X1,X2,HO,Bw,zz⟩:=ru hb aC.o s0 X0 X1 X2 HO Bw;replace H5:=af (H5.o.below hb);replace H6:=af (H6.o.below hb);clear hb zz;have HD:=af (DF (iE k.cache us j) x _ W7 HO.o.c.rs);go_wp2_with fail;refine HD.o.mono ?_;rintro en w8 ⟨u8,rfl,xE,hb⟩;obtain ⟨a8,c8,rfl,_,_⟩:=RS.val xE.rs;have z7:=Bw.o.size;have O8:=af xE;clear xE HD;obtain ⟨X0,X1,X2,HO,Bw,zz⟩:=ru hb aC.o s0 X0 X1 X2 HO Bw;replace H5:=af (H5.o.below hb);replace H6:=af (H6.o.below hb);clear hb zz;have HK:=af (show KO w8 base _ _ _ (A0 a8 (iE k.cache us (j+1)).length c8) { k with cache:=iE k.cache us (j+1) } from ⟨HO.o.m,HO.o.i,HO.o.e,by rw [Qa.o];exact O8.o.mono (by have:=aC.o;omega)⟩);rw [<-Qa.o]
      have hz3:=X0.o.cell 3;have hf3:=X0.o.frozen 3;simp only [A1,A2] at hz3;obtain ⟨X0,X1,X2,HK,Bw⟩:=JP (A0 a8 (iE k.cache us (j+1)).length c8) (by omega) (by omega) (by have:=aC.o;omega) X0 X1 X2 HK Bw;have H5:=af (H5.o.Oy (g:=w.heap.size) zu.o 3 (A0 a8 (iE k.cache us (j+1)).length c8));have H6:=af (H6.o.Oy (g:=w.heap.size) (by have:=z5.o;have:=zu.o;omega) 3 (A0 a8 (iE k.cache us (j+1)).length c8));have TA:=af (show ∀ y ∈ us.take (j+1),Kx.allowed k.ag bs (au k.ah y).aB=true from fun y hy=>by
       rw [Dc.o] at hy;rcases List.mem_append.1 hy with h | h
       ·exact hall.o y h
       rw [List.mem_singleton.1 h];exact Dk.o)
      clear HO O8 hall Qa Dc;go_wp2_with fail;go_roundw
      case rel=>exact ⟨j+1,a8,c8,by go_num,by omega,TA,af ⟨X0.o,X1.o,X2.o,HK.o,Bw.o⟩,H5,H6⟩
      case measure=>simp [intOf];omega
    have hjn:j=us.length:=by omega
    subst hjn;have HV:=af (show Kx.lQ k ⟨bQ,e,f,cb,cc,bg⟩=(if lJ k ⟨bQ,e,f,cb,cc,bg⟩ then (k,0,1) else (⟨Kx.bG k.mem f cb.toNat cc,aP (aP k.ag (Kx.word k.mem f cb.toNat) (-1)) cc 1,k.ah,iE k.cache us us.length⟩,0,0)) by
     have h1:(us.all fun e=>Kx.allowed k.ag bs (au k.ah e).aB)=true:=by
      rw [List.all_eq_true];have:=hall.o;rw [A4] at this;exact this
     have h2:=HV.o;rw [h1] at h2;have h3:iE k.cache us us.length=us.foldl (fun (ca:List Kx.Cached) (e:Nat)=>fP ca (e:Int)) k.cache:=by unfold iE;rw [A4]
     rw [h3];exact h2)
    generalize iE k.cache us us.length=ca at X0 HO HV;have HB:=af (show Kx.bK cb 0 3=true/\(dY cc==2)=false by
     have:=HB.o
     simp only [Bool.false_eq,Bool.or_eq_false_iff,Bool.not_eq_false'] at this;exact this.1)
    clear hall H5 H6;go_upto_region 15 with fail;obtain ⟨sd,hsd⟩:=XP (lJ k ⟨bQ,e,f,cb,cc,bg⟩);have HD:=af (show sd=(match Kx.entry cc with | none=>false | some (g,_)=>!jQ k e (Kx.inf k.ag g).guard) from hsd.symm.trans rfl)
    go_cut [8,10,112] from 17 (fun s8 s10 s wx=>s8=I_ (FK cc)/\s10=.bool (Ik cc)/\s=.bool sd/\TI (Below wr.heap.size wr wx))
    case first =>
     cases hen:Kx.entry cc with
     | none =>
      have HD:=af (show sd=false by rw [HD.o,hen]);have oV:=af (uB hen);rw [oV.o];clear hen;go_quiet (fail);go_wp2_with fail;go_meet;exact ⟨rfl,by rw [oV.o],by rw [HD.o],below_drewN _ _⟩
     | some pr =>
      obtain ⟨fr,bw⟩:=pr;have hfr:=dU hen;have HD:=af (show sd=!jQ k e (Kx.inf k.ag fr).guard by rw [HD.o,hen]);have oV:=af (uC hen);rw [oV.o.1,oV.o.2];clear hen;have VZ:(fr:Int)<(k.ag.length:Int):=by have:=fJ.o;omega
      obtain ⟨_,_,_,ev,_,_,q1,_⟩:=bV.at HO.o.i.rs (k:=fr) (by show fr<k.ag.length;have:=fJ.o;omega);obtain ⟨⟨rfl,rfl,_⟩,_,rfl⟩:=Zb ev;clear ev;change wr.cell? _=some (.string (Kx.inf k.ag fr).guard) at q1;have HM:=af (qE k e (Kx.inf k.ag fr).guard (A0 am k.mem.length cm) (A0 (some ⟨bi,oi,none⟩) k.ag.length ci) (A0 ae k.ah.length ce) (A0 aj ca.length cj) wr.drew (HO.o.below (Below.bz (Below.refl _ wr))).rk.e (by have:=H3.o;omega));generalize (Kx.inf k.ag fr).guard=gd at q1 HM HD;obtain ⟨p0,p1,p2,p3⟩:=X0.o.c4;have c0:=X1.o.c6
      go_region_held3 (fun wz=>wz.cell? ⟨w.heap.size,0,none⟩=some (A0 am k.mem.length cm)/\wz.cell? ⟨w.heap.size,1,none⟩=some (A0 (some ⟨bi,oi,none⟩) k.ag.length ci)/\wz.cell? ⟨w.heap.size,2,none⟩=some (A0 ae k.ah.length ce)/\wz.cell? ⟨w.heap.size,3,none⟩=some (A0 aj ca.length cj)/\wz.cell? ⟨w0.heap.size,1,none⟩=some (I_ e)/\wz.cell? ⟨bi,oi+fr*3+1,none⟩=some (.string gd))
       (first | assumption | exact S9.o | go_keep)
       (first | (go_at_call 273;refine HM.o.mono ?_;rintro en w9 ⟨rfl,hb0⟩;have hb:=Below.gG hb0;have S9:=af (show w9.cell? ⟨w.heap.size,0,none⟩=some (A0 am k.mem.length cm)/\w9.cell? ⟨w.heap.size,1,none⟩=some (A0 (some ⟨bi,oi,none⟩) k.ag.length ci)/\w9.cell? ⟨w.heap.size,2,none⟩=some (A0 ae k.ah.length ce)/\w9.cell? ⟨w.heap.size,3,none⟩=some (A0 aj ca.length cj)/\w9.cell? ⟨w0.heap.size,1,none⟩=some (I_ e)/\w9.cell? ⟨bi,oi+fr*3+1,none⟩=some (.string gd) from ⟨(X0.o.below hb).cell 0,(X0.o.below hb).cell 1,(X0.o.below hb).cell 2,(X0.o.below hb).cell 3,(X1.o.below hb).cell 1,(hb.cell (p:=⟨bi,oi+fr*3+1,none⟩) (World.block_lt_of_cell? wr _ q1)).trans q1⟩)))
      go_wp2_with fail;go_meet;exact ⟨by rw [oV.o.2],by rw [oV.o.1],by rw [HD.o],hb⟩
    case rest =>
     obtain ⟨rfl,rfl,rfl,Dt⟩:=hcut;have hb:=Dt.o;clear Dt;obtain ⟨X0,X1,X2,HO,Bw,zz⟩:=ru hb aC.o s0 X0 X1 X2 HO Bw;clear hb zz
     cases sd with
     | true =>
      have HF:=af (show Kx.lQ k ⟨bQ,e,f,cb,cc,bg⟩=(k,0,1) by rw [HV.o,if_pos hsd]);clear HV HB hsd HD;obtain ⟨p0,p1,p2,p3⟩:=X0.o.c4;have r0:=X2.o.c4;have jh:=X2.o.f4;go_wp2_with fail;exact afj HF.o X2.o Bw.o aC.o fun _ a b c d=>by simp [results,results224,go_sem,a,b,c,d]
     | false =>
      obtain ⟨hib,_⟩:=HB.o;obtain ⟨b0,b3⟩:=Kx.ay.1 hib;obtain ⟨b,rfl⟩:=Int.eq_ofNat_of_zero_le b0;have hb4:b<4:=by omega
      have HV:=af (show Kx.lQ k ⟨bQ,e,f,b,cc,bg⟩=(⟨Kx.bG k.mem f b cc,aP (aP k.ag (Kx.word k.mem f b) (-1)) cc 1,k.ah,ca⟩,0,0) by rw [HV.o,if_neg (by rw [hsd];decide)];rfl);clear HB hsd HD hib b0 b3;obtain ⟨bm,om,TB,um',ev,hcm,m_⟩:=HO.o.m.rm.row kG.o dG;obtain ⟨uk,hr4,_⟩:=mem_row kG.o dG;obtain ⟨rfl,hmL,rfl⟩:=Za ev;clear ev;obtain ⟨br,oR,cr,rfl,aao,q0⟩:=m_.at (k:=b) (by rw [hr4];omega);rw [hr4] at hcm;have hw0:(Kx.row k.mem f)[b]'(by rw [hr4];omega)=Kx.word k.mem f b:=by unfold Kx.word;simp [hr4,hb4]
      rw [hw0] at q0;have kX:=af uk;have Oz:=af hr4;have Wj:(f:Int)<(k.mem.length:Int):=by omega
      have MO:(b:Int)<4:=by omega
      clear hw0 m_ uk hr4 hmL;obtain ⟨old,hold⟩:=XP (Kx.word k.mem f b);rw [hold] at HV q0;obtain ⟨p0,p1,p2,p3⟩:=X0.o.c4;have c0:=X1.o.c6;go_wp2_with fail;go_quiet ((go_at_call 234;exact Calls.quiet_of_same ((bM _ _).mono fun _ _ ⟨he,hw⟩=>⟨(show _=Ending.returned (.tuple #[I_ (FK old),.bool (Qc old),.bool (Ik old)]) from he),hw.symm⟩)))
      obtain ⟨W1,hW1⟩:=XP (wc.drewN nq);have hb:Below wc.heap.size wc W1:=hW1 ▸ below_drewN wc nq;rw [hW1];clear hW1 q0 hcm p0 p1 p2 p3;clear c0;obtain ⟨X0,X1,X2,HO,Bw,zz⟩:=ru hb aC.o s0 X0 X1 X2 HO Bw;clear hb zz;have HN:=af (oI.MZ nM.o);go_upto_if 129 with fail;go_cut [14,16] from 17 (fun s14 s16 wx=>s14=I_ (FK old)/\s16=.bool (Ik old)/\TI (M_ w wx base w.heap.size w0.heap.size w1.heap.size (A0 (some ⟨bm,om,none⟩) k.mem.length cm) (A0 (some ⟨bi,oi,none⟩) k.ag.length ci) (A0 ae k.ah.length ce) (A0 aj ca.length cj) [I_ bQ,I_ e,I_ f,I_ b,I_ cc,.string bg] [A0 none 0 0,A0 none 0 0,A0 none 0 0,A0 none 0 0] (⟨k.mem,(aP k.ag old (-1)),k.ah,ca⟩:Kx.Kernel)))
      case first =>
       cases hen:Kx.entry old with
       | none =>
        have oV:=af (uB hen);rw [oV.o];have HE:=af (nT (l:=(⟨k.mem,k.ag,k.ah,ca⟩:Kx.Kernel).ag) (d:=(-1)) hen);clear hen;go_wp2_with fail;go_meet;exact ⟨rfl,by rw [oV.o],by rw [HE.o];exact ⟨X0.o,X1.o,X2.o,HO.o,Bw.o⟩⟩
       | some pr =>
        obtain ⟨fo,bw⟩:=pr;have hfo:=dU hen;have oV:=af (uC hen);rw [oV.o.1,oV.o.2];have HE:=af (nU (l:=(⟨k.mem,k.ag,k.ah,ca⟩:Kx.Kernel).ag) (d:=(-1)) hen);clear hen;have hL:=af (show (⟨k.mem,k.ag,k.ah,ca⟩:Kx.Kernel).ag.length=k.ag.length from rfl);obtain ⟨_,_,ev,hbg,hbl,⟨Jq,hgk⟩,_,hfz,hrf,hset⟩:=(HO.o.below (Below.bz (Below.refl _ W1))).aF (f:=fo) (by rw [hL.o,fJ.o];exact hfo);rw [hL.o] at ev;obtain ⟨⟨rfl,rfl,_⟩,_,rfl⟩:=Zb ev;clear ev;have hn:=HN.o fo;obtain ⟨r,hr⟩:=XP ((Kx.inf (⟨k.mem,k.ag,k.ah,ca⟩:Kx.Kernel).ag fo).refs);rw [hr] at hn hrf HE;have hset:=af (hset (r - 1));have hwr:IntKind.i64.wrap (r - 1)=r - 1:=by rw [IntKind.wrap_i64];omega
        have PW:(fo:Int)<(k.ag.length:Int):=by have:=fJ.o;omega
        obtain ⟨p0,p1,p2,p3⟩:=X0.o.c4;go_wp2_with fail;go_still_tail 12,(by kernel_rfl)
        change wpList _ _ _ _ _ W1.drew;have hb:Below W1.heap.size W1 W1.drew:=Below.bz fZ;obtain ⟨X0,X1,X2,Bw⟩:=yD (fo*3+2) (I_ (r - 1)) (show W1.drew.heap[bi]?=_ from hgk) (by decide) (by decide) hbg (af (X0.o.below hb)) (af (X1.o.below hb)) (af (X2.o.below hb)) (af (Bw.o.go (Below.bz fZ) aC.o));go_wp2_with fail;go_meet;exact ⟨by rw [oV.o.2],by rw [oV.o.1],by rw [HE.o];exact ⟨X0.o,X1.o,X2.o,hset.o,Bw.o⟩⟩
      case rest =>
       obtain ⟨rfl,rfl,hst⟩:=hcut;clear X0 X1 X2 HO Bw;obtain ⟨X0,X1,X2,HO,Bw⟩:=hst.o.parts;clear hst;go_upto_if 142 with fail;go_cut [8,10] from 17 (fun s14 s16 wx=>s14=I_ (FK cc)/\s16=.bool (Ik cc)/\TI (M_ w wx base w.heap.size w0.heap.size w1.heap.size (A0 (some ⟨bm,om,none⟩) k.mem.length cm) (A0 (some ⟨bi,oi,none⟩) k.ag.length ci) (A0 ae k.ah.length ce) (A0 aj ca.length cj) [I_ bQ,I_ e,I_ f,I_ b,I_ cc,.string bg] [A0 none 0 0,A0 none 0 0,A0 none 0 0,A0 none 0 0] (⟨k.mem,(aP (aP k.ag old (-1)) cc 1),k.ah,ca⟩:Kx.Kernel)))
       case first =>
        cases hen:Kx.entry cc with
        | none =>
         have oV:=af (uB hen);rw [oV.o];have HE:=af (nT (l:=(⟨k.mem,(aP k.ag old (-1)),k.ah,ca⟩:Kx.Kernel).ag) (d:=1) hen);clear hen;go_wp2_with fail;go_meet;exact ⟨rfl,by rw [oV.o],by rw [HE.o];exact ⟨X0.o,X1.o,X2.o,HO.o,Bw.o⟩⟩
        | some pr =>
         obtain ⟨fo,bw⟩:=pr;have hfo:=dU hen;have oV:=af (uC hen);rw [oV.o.1,oV.o.2];have HE:=af (nU (l:=(⟨k.mem,(aP k.ag old (-1)),k.ah,ca⟩:Kx.Kernel).ag) (d:=1) hen);clear hen;have hL:=af (show (⟨k.mem,(aP k.ag old (-1)),k.ah,ca⟩:Kx.Kernel).ag.length=k.ag.length from fH);obtain ⟨_,_,ev,hbg,hbl,⟨Jq,hgk⟩,_,hfz,hrf,hset⟩:=(HO.o.below (Below.bz (Below.refl _ wc))).aF (f:=fo) (by rw [hL.o,fJ.o];exact hfo);rw [hL.o] at ev;obtain ⟨⟨rfl,rfl,_⟩,_,rfl⟩:=Zb ev;clear ev;have hn:=(HN.o.jb (x:=old) (d:=-1) (.inr rfl) fJ.o) fo;obtain ⟨r,hr⟩:=XP ((Kx.inf (⟨k.mem,(aP k.ag old (-1)),k.ah,ca⟩:Kx.Kernel).ag fo).refs);rw [hr] at hn hrf HE;have hset:=af (hset (r+1))
         have hwr:IntKind.i64.wrap (r+1)=r+1:=by rw [IntKind.wrap_i64];omega
         have PW:(fo:Int)<(k.ag.length:Int):=by have:=fJ.o;omega
         obtain ⟨p0,p1,p2,p3⟩:=X0.o.c4;go_wp2_with fail;go_still_tail 12,(by kernel_rfl)
         change wpList _ _ _ _ _ wc.drew;have hb:Below wc.heap.size wc wc.drew:=Below.bz fZ;obtain ⟨X0,X1,X2,Bw⟩:=yD (fo*3+2) (I_ (r+1)) (show wc.drew.heap[bi]?=_ from hgk) (by decide) (by decide) hbg (af (X0.o.below hb)) (af (X1.o.below hb)) (af (X2.o.below hb)) (af (Bw.o.go (Below.bz fZ) aC.o));go_wp2_with fail;go_meet;exact ⟨by rw [oV.o.2],by rw [oV.o.1],by rw [HE.o];exact ⟨X0.o,X1.o,X2.o,hset.o,Bw.o⟩⟩
       case rest =>
        obtain ⟨rfl,rfl,hst⟩:=hcut;clear X0 X1 X2 HO Bw;obtain ⟨X0,X1,X2,HO,Bw⟩:=hst.o.parts;clear hst;obtain ⟨W9,t_⟩:=XP wc.drew;have hb:Below wc.heap.size wc W9:=t_ ▸ Below.bz fZ;obtain ⟨p0,p1,p2,p3⟩:=X0.o.c4;have c0:=X1.o.c6;obtain ⟨bq,cq',g,cg,eu,hrow,hgb,TC,⟨Jq,hgk⟩,hz,hfz,hset⟩:=(HO.o.below hb).bG (f:=f) (a:=b) (by show f<k.mem.length;rw [kX.o];exact dG) (by show b<(Kx.row k.mem f).length;rw [Oz.o];exact hb4);change W9.cell? _=some (A0 _ (Kx.row k.mem f).length _) at hrow;rw [Oz.o] at hrow;obtain ⟨⟨rfl,rfl,_⟩,_,rfl⟩:=Zb eu;clear eu;have hset:=af (hset cc);obtain ⟨z,hz⟩:=hz;have hrow0:wc.cell? ⟨bm,f,none⟩=some (A0 (some ⟨g,0,none⟩) 4 cg):=by rw [<-t_] at hrow;exact hrow
        have Ir:=af t_;clear t_;go_wp2_with fail;go_still_tail 11,(by kernel_rfl)
        change wpList _ _ _ _ _ wc.drew;rw [Ir.o];obtain ⟨X0,X1,X2,Bw⟩:=yD b (I_ cc) hgk (by decide) (by decide) hgb (af (X0.o.below hb)) (af (X1.o.below hb)) (af (X2.o.below hb)) (af (Bw.o.go hb aC.o));clear Ir;have HF:=af (show Kx.lQ k ⟨bQ,e,f,b,cc,bg⟩=(⟨Kx.bG k.mem f b cc,(aP (aP k.ag old (-1)) cc 1),k.ah,ca⟩,0,0) from HV.o);clear p0 p1 p2 p3 c0 HV;obtain ⟨p0,p1,p2,p3⟩:=X0.o.c4;have r0:=X2.o.c4;have jh:=X2.o.f4;go_wp2_with fail;exact afk HF.o X2.o Bw.o aC.o hset.o fun _ a b c d=>by simp [results,results224,go_sem,a,b,c,d]
end Go.Proofs.YthcmmoibpgcgaaaGreatDoor
