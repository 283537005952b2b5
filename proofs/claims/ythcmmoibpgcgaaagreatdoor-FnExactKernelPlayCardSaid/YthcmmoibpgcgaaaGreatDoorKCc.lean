/- KC18, KC19, joined. -/
import Derived.Test.YthcmmoibpgcgaaaGreatDoorKCb
import Derived.Test.YthcmmoibpgcgaaaGreatDoorKCi
set_option maxHeartbeats 4000000
set_option maxRecDepth 100000
set_option linter.all false
open Nat renaming lt_of_lt_of_le->A1
open Int renaming eq_ofNat_of_zero_le->A2
open Bool renaming and_eq_true->A3
open Option.some renaming injEq->A4
open Go.Value renaming slice->A0
open Go.Proofs.Tryz
namespace Go.Proofs.YthcmmoibpgcgaaaGreatDoor
open Go.RowKit Kx
theorem Hu (k:Kx.Kernel) (c:Kx.Call) (e:Nat) (base:Nat) (um ui ue uc:Value) (w:World) (h:KO w base um ui ue uc k) (hbase:base<=w.heap.size) (hok:az k=true) (hs:iQ k) (hce:c.env=e) (he:e<3) :
  Calls prog 225 #[.agg #[um,ui,ue,uc],dW c] w (vk base w (mM k c)):=by
 obtain ⟨bQ,JF,ca,cb,cc,bg⟩:=c;simp only at hce;subst hce;obtain ⟨am,cm,ai,ci,ae,ce,ac,cq,w0,w1,w2,rfl,rfl,rfl,rfl,hw0,hw1,hw2,X0,X1,X2,Bw,HO,s0,s1,s2⟩:=pF h hbase bQ e ca cb cc bg;obtain ⟨hmo,jI,h12,hco,h3,hro⟩:=aI hok;have kG:=af hmo;have MX:=af hro;have nM:=af jI;have fJ:=af h12;have H3:=af h3;have bF:=af hok;have Hs:=af hs;have aC:=af hbase;clear h hok hs hmo jI h12 hco h3 hro;have HV:=af (show mM k ⟨bQ,e,ca,cb,cc,bg⟩=(if ca≠-1/\(!Kx.bK ca 0 11||(Kx.inf k.ag ca.toNat).kind != 3) then (k,0,3)
  else if !Kx.allowed k.ag (Kx.reach k.mem ca) (au k.ah e).aB then (k,0,1)
  else (⟨k.mem,(if 0<=ca then Kx.aF (if 0<=(au k.ah e).root then Kx.aF k.ag (au k.ah e).root.toNat (-1) else k.ag) ca.toNat 1 else (if 0<=(au k.ah e).root then Kx.aF k.ag (au k.ah e).root.toNat (-1) else k.ag)),Kx.dE k.ah e ca,fP k.cache e⟩,0,0)) from rfl)
 obtain ⟨bad,hbad⟩:∃ bad:Bool,(decide (ca≠-1)&&(!Kx.bK ca 0 11||(Kx.inf k.ag ca.toNat).kind != 3))=bad:=⟨_,rfl⟩;have c0:=X1.o.c6;have p0:=X0.o.c4;unfold dW;go_enter func225,ntmps225;go_upto_region 1 with fail;go_cut [26] from 8 (fun s wx=>s=.bool bad/\wx=w2)
 case first =>
  by_cases hm1:ca=-1
  ·have hb0:bad=false:=by rw [<-hbad,hm1];rfl
   have Hb0:=af hb0;subst hm1;clear hbad hb0;go_wp2_with fail;go_meet;exact ⟨by rw [Hb0.o],rfl⟩
  have hmb:(ca != -1)=true:=by simpa using hm1
  cases hin:Kx.bK ca 0 11 with
  | false =>
   have hb0:bad=true:=by rw [<-hbad,hin,decide_eq_true hm1];rfl
   have Hb0:=af hb0;have jR:=af hin;clear hbad hb0 hin hm1;go_wp2_with fail;refine (dI _ _).mono ?_;rintro en w3 ⟨rfl,rfl⟩;rw [jR.o];go_wp2_with fail;go_meet;exact ⟨by rw [Hb0.o],rfl⟩
  | true =>
   obtain ⟨a0,a11⟩:=Kx.ay.1 hin;obtain ⟨f,rfl⟩:=A2 a0;have hb0:=af (show bad=((Kx.inf k.ag f).kind != 3) by rw [<-hbad,hin,decide_eq_true hm1];rfl);have jR:=af hin;have wJ:(f:Int)<(k.ag.length:Int):=by have:=fJ.o;omega
   obtain ⟨bi,oi,ci',ev,zN,g0,_,_⟩:=bV.at HO.o.i.rs (k:=f) (by have:=fJ.o;omega);obtain ⟨rfl,_,rfl⟩:=Za ev;clear ev;generalize (Kx.inf k.ag f).kind=kd at g0 hb0;clear hbad hin hm1;go_wp2_with fail;refine (dI _ _).mono ?_;rintro en w3 ⟨rfl,rfl⟩;rw [jR.o];go_wp2_with fail;go_meet;exact ⟨by rw [hb0.o],rfl⟩
 case rest =>
  obtain ⟨rfl,rfl⟩:=hcut
  cases bad with
  | true =>
   have HF:=af (show mM k ⟨bQ,e,ca,cb,cc,bg⟩=(k,0,3) by rw [HV.o,if_pos (by simpa using hbad)]);clear HV hbad p0 c0;have p0:=X0.o.c4;have r0:=X2.o.c4;have jh:=X2.o.f4;go_wp2_with fail;exact afj HF.o X2.o Bw.o aC.o fun _ a b c d=>by simp [results,results225,go_sem,a,b,c,d]
  | false =>
   have Z5:=af (show ca=-1\/∃ f:Nat,ca=f/\f<12 by
    by_cases hm1:ca=-1
    ·exact .inl hm1
    refine .inr ?_;rw [decide_eq_true hm1,Bool.true_and,Bool.or_eq_false_iff] at hbad;obtain ⟨a0,a11⟩:=Kx.ay.1 (by simpa using hbad.1);obtain ⟨f,rfl⟩:=A2 a0;exact ⟨f,rfl,by omega⟩)
   have HV:=af (by have:=HV.o;rw [if_neg (by simp only [Bool.and_eq_false_iff,decide_eq_false_iff_not,Classical.not_not] at hbad;rintro ⟨h1,h2⟩;rcases hbad with h3 | h3;exact h1 h3;rw [h3] at h2;cases h2)] at this;exact this)
   clear hbad;have Oi:=af (show ca<=11 by rcases Z5.o with h | ⟨f,h,h2⟩ <;> omega)
   obtain ⟨be,oe,VN,ur,ev,hbel,q0,q1,hr⟩:=HO.o.e.re.at (k:=e) (by have:=H3.o;omega);obtain ⟨rfl,_,rfl⟩:=Za ev;clear ev;obtain ⟨bi,oi,ci',ev,_,_⟩:=bV.at HO.o.i.rs (k:=0) (by have:=fJ.o;omega);obtain ⟨rfl,_,rfl⟩:=Za ev;clear ev;obtain ⟨ar,cr,rfl,_,_⟩:=RS.val hr;have Hr:=af (show dK wc _ (au k.ah e).aB from hr);clear hr;change wc.cell? _=some (A0 ar (au k.ah e).aB.length cr) at q0;have PG:(e:Int)<(k.ah.length:Int):=by have:=H3.o;omega
   have PV:=af (MX.o e he);have JO:=af (kZ k.mem ca _ wc.drew (HO.o.m.rm.below (Below.bz fZ)) kG.o Oi.o);generalize (au k.ah e).aB=rs at q0 HV Hr;generalize (au k.ah e).root=old at q1 HV PV;have SX:=af (fun (W:World) (u:Value) (hW:Below wc.heap.size wc W) (hu:RI W u (fU (Kx.reach k.mem ca)))=>jw k.ag (Kx.reach k.mem ca) rs _ u _ W (RS.below HO.o.i.rs hW) hu (RS.below Hr.o hW) (fun x hx=>by rw [fJ.o];exact jK x hx))
   have hs0:=af (fun (W:World) (hW:Below wc.heap.size wc W)=>show W.cell? ⟨w.heap.size,0,none⟩=some (A0 am k.mem.length cm)/\W.cell? ⟨w.heap.size,1,none⟩=some (A0 (some ⟨bi,oi,none⟩) k.ag.length ci)/\W.cell? ⟨w.heap.size,2,none⟩=some (A0 (some ⟨be,oe,none⟩) k.ah.length ce)/\W.cell? ⟨w0.heap.size,1,none⟩=some (I_ e)/\W.cell? ⟨w0.heap.size,2,none⟩=some (I_ ca)/\W.cell? ⟨be,oe+e*2,none⟩=some (A0 ar rs.length cr) from ⟨(X0.o.below hW).cell 0,(X0.o.below hW).cell 1,(X0.o.below hW).cell 2,(X1.o.below hW).cell 1,(X1.o.below hW).cell 2,(hW.cell (p:=⟨be,oe+e*2,none⟩) hbel).trans q0⟩)
   clear p0 c0;have hd:=hs0.o _ (Below.bz fZ);obtain ⟨d0,d1,d2,d3,d4,d5⟩:=hs0.o _ fZ;go_upto_region 3 with fail;go_region_held3 (fun wz=>wz.cell? ⟨w.heap.size,0,none⟩=some (A0 am k.mem.length cm)/\wz.cell? ⟨w.heap.size,1,none⟩=some (A0 (some ⟨bi,oi,none⟩) k.ag.length ci)/\wz.cell? ⟨w.heap.size,2,none⟩=some (A0 (some ⟨be,oe,none⟩) k.ah.length ce)/\wz.cell? ⟨w0.heap.size,1,none⟩=some (I_ e)/\wz.cell? ⟨w0.heap.size,2,none⟩=some (I_ ca)/\wz.cell? ⟨be,oe+e*2,none⟩=some (A0 ar rs.length cr))
    (first | assumption | exact h3.o | exact h4.o | go_keep)
    (first
     | (go_at_call 175;refine JO.o.mono ?_;rintro en w3 ⟨u3,rfl,ho3,hb0⟩;have hb3:=Below.gG hb0;have h3:=af (hs0.o _ hb3);have Yj:=af (SX.o w3 u3 hb3 ho3.ri);clear ho3 hb0)
     | (go_at_call 174;refine Yj.o.mono ?_;rintro en w4 ⟨rfl,hb4⟩;have hb:=hb3.trans (hb4.mono hb3.size);have h4:=af (hs0.o _ hb);clear hb4))
   clear h3 h4 Yj hb3 hd JO SX;have q1:=(hb.cell (p:=⟨be,oe+e*2+1,none⟩) hbel).trans q1;clear d0 d1 d2 d3 d4 d5 hs0 q0 Hr;obtain ⟨X0,X1,X2,HO,Bw,zz⟩:=ru hb aC.o s0 X0 X1 X2 HO Bw;clear hb zz
   cases hal:Kx.allowed k.ag (Kx.reach k.mem ca) rs with
   | false =>
    have HF:=af (show mM k ⟨bQ,e,ca,cb,cc,bg⟩=(k,0,1) by rw [HV.o,if_pos (by rw [hal];rfl)]);clear HV hal q1;have p0:=X0.o.c4;have r0:=X2.o.c4;have jh:=X2.o.f4;go_wp2_with fail;exact afj HF.o X2.o Bw.o aC.o fun _ a b c d=>by simp [results,results225,go_sem,a,b,c,d]
   | true =>
    have HV:=af (show mM k ⟨bQ,e,ca,cb,cc,bg⟩=(⟨k.mem,(if 0<=ca then Kx.aF (if 0<=old then Kx.aF k.ag old.toNat (-1) else k.ag) ca.toNat 1 else (if 0<=old then Kx.aF k.ag old.toNat (-1) else k.ag)),Kx.dE k.ah e ca,fP k.cache e⟩,0,0) by rw [HV.o,if_neg (by rw [hal];decide)]);clear hal;have HN:=af (oI.MZ nM.o);have p0:=X0.o.c4;have c0:=X1.o.c6;go_upto_if 53 with fail
    go_cut [7] from 8 (fun s7 wx=>s7=I_ old/\TI (M_ w wx base w.heap.size w0.heap.size w1.heap.size (A0 am k.mem.length cm) (A0 (some ⟨bi,oi,none⟩) k.ag.length ci) (A0 (some ⟨be,oe,none⟩) k.ah.length ce) (A0 ac k.cache.length cq) [I_ bQ,I_ e,I_ ca,I_ cb,I_ cc,.string bg] [A0 none 0 0,A0 none 0 0,A0 none 0 0,A0 none 0 0] (⟨k.mem,(if 0<=old then Kx.aF k.ag old.toNat (-1) else k.ag),k.ah,k.cache⟩:Kx.Kernel)))
    case first =>
     by_cases hc:0<=old
     case neg =>
      have HE:=af (show (if 0<=old then Kx.aF k.ag old.toNat (-1) else k.ag)=k.ag by rw [if_neg hc]);go_wp2_with fail;go_meet;exact ⟨rfl,by rw [HE.o];exact ⟨X0.o,X1.o,X2.o,HO.o,Bw.o⟩⟩
     obtain ⟨fo,hfe⟩:=A2 hc;have hfo:fo<12:=by have:=PV.o;omega
     have hL:=af (show k.ag.length=k.ag.length from rfl);obtain ⟨_,_,ev,hbg,hbl,⟨Jq,hgk⟩,_,hfz,hrf,hset⟩:=(HO.o.below (Below.bz (Below.refl _ w4))).aF (f:=fo) (by rw [hL.o,fJ.o];exact hfo);rw [hL.o] at ev;simp only [Value.slice.injEq,A4,Addr.mk.injEq] at ev;obtain ⟨⟨rfl,rfl,_⟩,_,rfl⟩:=ev;have hn:=HN.o fo;obtain ⟨r,hr⟩:=XP ((Kx.inf k.ag fo).refs);have HE:=af (show (if 0<=old then Kx.aF k.ag old.toNat (-1) else k.ag)=(k.ag).set fo { Kx.inf k.ag fo with refs:=r - 1 } by rw [if_pos hc,<-hr];unfold Kx.aF;rw [hfe];rfl);rw [hr] at hn hrf;have hset:=af (hset (r - 1));have hwr:IntKind.i64.wrap (r - 1)=r - 1:=by rw [IntKind.wrap_i64];omega
     have PW:(fo:Int)<(k.ag.length:Int):=by have:=fJ.o;omega
     have HS:=af (show KO (w4.drew.setCell _ _) base _ _ _ _ (⟨k.mem,(if 0<=old then Kx.aF k.ag old.toNat (-1) else k.ag),k.ah,k.cache⟩:Kx.Kernel) by rw [HE.o];exact hset.o);have p0:=X0.o.c4;subst hfe;clear hset hr HE;go_wp2_with fail;go_still_tail 12,(by kernel_rfl)
     change wpList _ _ _ _ _ w4.drew;have hb:Below w4.heap.size w4 w4.drew:=Below.bz fZ;obtain ⟨X0,X1,X2,Bw⟩:=yD (fo*3+2) (I_ (r - 1)) (show w4.drew.heap[bi]?=_ from hgk) (by decide) (by decide) hbg (af (X0.o.below hb)) (af (X1.o.below hb)) (af (X2.o.below hb)) (af (Bw.o.go (Below.bz fZ) aC.o));go_wp2_with fail;go_meet;exact ⟨rfl,⟨X0.o,X1.o,X2.o,HS.o,Bw.o⟩⟩
    case rest =>
     obtain ⟨rfl,hst⟩:=hcut;clear X0 X1 X2 HO Bw;obtain ⟨X0,X1,X2,HO,Bw⟩:=hst.o.parts;clear hst;have p0:=X0.o.c4;have c0:=X1.o.c6;go_upto_if 68 with fail;go_cut [7] from 8 (fun s7 wx=>s7=I_ old/\TI (M_ w wx base w.heap.size w0.heap.size w1.heap.size (A0 am k.mem.length cm) (A0 (some ⟨bi,oi,none⟩) k.ag.length ci) (A0 (some ⟨be,oe,none⟩) k.ah.length ce) (A0 ac k.cache.length cq) [I_ bQ,I_ e,I_ ca,I_ cb,I_ cc,.string bg] [A0 none 0 0,A0 none 0 0,A0 none 0 0,A0 none 0 0] (⟨k.mem,(if 0<=ca then Kx.aF (if 0<=old then Kx.aF k.ag old.toNat (-1) else k.ag) ca.toNat 1 else (if 0<=old then Kx.aF k.ag old.toNat (-1) else k.ag)),k.ah,k.cache⟩:Kx.Kernel)))
     case first =>
      by_cases hc:0<=ca
      case neg =>
       have HE:=af (show (if 0<=ca then Kx.aF (if 0<=old then Kx.aF k.ag old.toNat (-1) else k.ag) ca.toNat 1 else (if 0<=old then Kx.aF k.ag old.toNat (-1) else k.ag))=(if 0<=old then Kx.aF k.ag old.toNat (-1) else k.ag) by rw [if_neg hc]);go_wp2_with fail;go_meet;exact ⟨rfl,by rw [HE.o];exact ⟨X0.o,X1.o,X2.o,HO.o,Bw.o⟩⟩
      obtain ⟨fo,hfe⟩:=A2 hc;have hfo:fo<12:=by have:=Oi.o;omega
      have hL:=af (show (if 0<=old then Kx.aF k.ag old.toNat (-1) else k.ag).length=k.ag.length from (by split <;> simp [Kx.aF]));obtain ⟨_,_,ev,hbg,hbl,⟨Jq,hgk⟩,_,hfz,hrf,hset⟩:=(HO.o.below (Below.bz (Below.refl _ wc))).aF (f:=fo) (by rw [hL.o,fJ.o];exact hfo);rw [hL.o] at ev;simp only [Value.slice.injEq,A4,Addr.mk.injEq] at ev;obtain ⟨⟨rfl,rfl,_⟩,_,rfl⟩:=ev;have hn:=(show oI 1001 (if 0<=old then Kx.aF k.ag old.toNat (-1) else k.ag) from (by split;exact HN.o.set (.inr rfl) (by rw [fJ.o];have:=PV.o;omega);intro g;have:=HN.o g;omega)) fo;obtain ⟨r,hr⟩:∃ r,(Kx.inf (if 0<=old then Kx.aF k.ag old.toNat (-1) else k.ag) fo).refs=r:=⟨_,rfl⟩
      have HE:=af (show (if 0<=ca then Kx.aF (if 0<=old then Kx.aF k.ag old.toNat (-1) else k.ag) ca.toNat 1 else (if 0<=old then Kx.aF k.ag old.toNat (-1) else k.ag))=((if 0<=old then Kx.aF k.ag old.toNat (-1) else k.ag)).set fo { Kx.inf (if 0<=old then Kx.aF k.ag old.toNat (-1) else k.ag) fo with refs:=r+1 } by rw [if_pos hc,<-hr];unfold Kx.aF;rw [hfe];rfl);rw [hr] at hn hrf;have hset:=af (hset (r+1));have hwr:IntKind.i64.wrap (r+1)=r+1:=by rw [IntKind.wrap_i64];omega
      have PW:(fo:Int)<(k.ag.length:Int):=by have:=fJ.o;omega
      have HS:=af (show KO (wc.drew.setCell _ _) base _ _ _ _ (⟨k.mem,(if 0<=ca then Kx.aF (if 0<=old then Kx.aF k.ag old.toNat (-1) else k.ag) ca.toNat 1 else (if 0<=old then Kx.aF k.ag old.toNat (-1) else k.ag)),k.ah,k.cache⟩:Kx.Kernel) by rw [HE.o];exact hset.o);have p0:=X0.o.c4;have c0:=X1.o.c6;subst hfe;clear hset hr HE;go_wp2_with fail;go_still_tail 14,(by kernel_rfl)
      change wpList _ _ _ _ _ wc.drew;have hb:Below wc.heap.size wc wc.drew:=Below.bz fZ;obtain ⟨X0,X1,X2,Bw⟩:=yD (fo*3+2) (I_ (r+1)) (show wc.drew.heap[bi]?=_ from hgk) (by decide) (by decide) hbg (af (X0.o.below hb)) (af (X1.o.below hb)) (af (X2.o.below hb)) (af (Bw.o.go (Below.bz fZ) aC.o));go_wp2_with fail;go_meet;exact ⟨rfl,⟨X0.o,X1.o,X2.o,HS.o,Bw.o⟩⟩
     case rest =>
      obtain ⟨rfl,hst⟩:=hcut;clear X0 X1 X2 HO Bw;obtain ⟨X0,X1,X2,HO,Bw⟩:=hst.o.parts;clear hst;have hlen:(if 0<=ca then Kx.aF (if 0<=old then Kx.aF k.ag old.toNat (-1) else k.ag) ca.toNat 1 else (if 0<=old then Kx.aF k.ag old.toNat (-1) else k.ag)).length=k.ag.length:=by split <;> split <;> simp [Kx.aF]
      have Hlen:=af hlen;clear hlen;have p0:=X0.o.c4;have c0:=X1.o.c6;obtain ⟨be2,Yk,ev,hbe,Oj,⟨Yl,hge⟩,⟨ze,hze⟩,hfe,hset⟩:=HO.o.dE (e:=e) (by show e<k.ah.length;have:=H3.o;omega);change Value.slice _ k.ah.length _=A0 _ k.ah.length _ at ev;simp only [Value.slice.injEq,A4,Addr.mk.injEq] at ev;obtain ⟨⟨rfl,rfl,_⟩,_,rfl⟩:=ev;have hset:=af (hset ca);obtain ⟨X0,X1,X2,Bw⟩:=yD (e*2+1) (I_ ca) hge (by decide) (by decide) hbe X0 X1 X2 Bw;obtain ⟨W9,t_⟩:=XP (wc.setCell ⟨be,e*2+1,none⟩ (I_ ca));rw [t_] at X0 X1 X2 Bw;have Ym:=af (show KO W9 base _ _ _ _ ⟨k.mem,(if 0<=ca then Kx.aF (if 0<=old then Kx.aF k.ag old.toNat (-1) else k.ag) ca.toNat 1 else (if 0<=old then Kx.aF k.ag old.toNat (-1) else k.ag)),Kx.dE k.ah e ca,k.cache⟩ from t_ ▸ hset.o)
      have HD:=af (DF k.cache e _ W9 Ym.o.c.rs);have t0:=X0.o.c4;obtain ⟨u0,u1,u2,u3,u4,u5⟩:=X1.o.c6;clear hset HO;go_wp2_with fail;refine HD.o.mono ?_;rintro en w8 ⟨u8,rfl,xE,hb⟩;obtain ⟨a8,c8,rfl,_,_⟩:=RS.val xE.rs;have z7:=Bw.o.size;have O8:=af xE;clear xE HD t0 u0 u1 u2 u3 u4 u5 p0 c0 hze hfe t_;obtain ⟨X0,X1,X2,HO,Bw,zz⟩:=ru hb aC.o s0 X0 X1 X2 Ym Bw;clear hb zz;have HK:=af (show KO w8 base _ _ _ (A0 a8 (fP k.cache e).length c8) ⟨k.mem,(if 0<=ca then Kx.aF (if 0<=old then Kx.aF k.ag old.toNat (-1) else k.ag) ca.toNat 1 else (if 0<=old then Kx.aF k.ag old.toNat (-1) else k.ag)),Kx.dE k.ah e ca,fP k.cache e⟩ from ⟨HO.o.m,HO.o.i,HO.o.e,O8.o.mono (by have:=aC.o;omega)⟩);have p0:=X0.o.c4;have r0:=X2.o.c4
      have jh:=X2.o.f4;have hf3:=X0.o.frozen 3;obtain ⟨X0,X1,X2,HK,Bw⟩:=JP (A0 a8 (fP k.cache e).length c8) (by omega) (by omega) (by have:=aC.o;omega) X0 X1 X2 HK Bw;have HF:=HV;clear HO O8;go_wp2_with fail;exact afk HF.o X2.o Bw.o aC.o HK.o fun _ a b c d=>by simp [results,results225,go_sem,a,b,c,d]
theorem jW {k:Kx.Kernel} (h:az k=true):∀ e,e<3->aS (au k.ah e).aB=true:=by
 intro e he;obtain ⟨_,_,_,_,h3,_⟩:=aI h;unfold az at h;simp only [A3] at h;have h4:=h.1.1.1.2;unfold iw at h4;simp only [A3] at h4;have hm:au k.ah e ∈ k.ah:=by
  rw [<-nO (show e<k.ah.length by omega)];exact List.getElem_mem _
 have:=List.all_eq_true.1 h4.1 _ hm
 unfold qw at this;simp only [A3] at this;exact this.1.1.1
theorem wQ (k:Kx.Kernel) (c:Kx.Call) (e:Nat) (base:Nat) (um ui ue uc:Value) (w:World) (h:KO w base um ui ue uc k) (hbase:base<=w.heap.size) (hok:az k=true) (hs:iQ k) (hce:c.env=e) (he:e<3) (hss:c.name.size<=9223372036854775807) :
  Calls prog 226 #[.agg #[um,ui,ue,uc],dW c] w (vk base w (f_ k c)):=by
 obtain ⟨bQ,JF,ca,cb,cc,bg⟩:=c;simp only at hce;subst hce;obtain ⟨am,cm,ai,ci,ae,ce,ac,cq,w0,w1,w2,rfl,rfl,rfl,rfl,hw0,hw1,hw2,X0,X1,X2,Bw,HO,s0,s1,s2⟩:=pF h hbase bQ e ca cb cc bg;obtain ⟨hmo,jI,h12,hco,h3,hro⟩:=aI hok;have kG:=af hmo;have MX:=af hro;have Jr:=af (show bg.size<=9223372036854775807 from hss);have Ol:=af (jW hok);have nM:=af jI;have fJ:=af h12;have H3:=af h3;have bF:=af hok;have Hs:=af hs;have aC:=af hbase;clear h hok hs hmo jI h12 hco h3 hro;have HV:=af (show f_ k ⟨bQ,e,ca,cb,cc,bg⟩=(if !Kx.bK ca 0 2||!bT bg||(bQ==9&&ca==e) then (k,0,3)
  else if !jQ k e bg then (k,0,1)
  else if bQ=8 then
   if (jS (au k.ah ca.toNat).aB bg).2 then (⟨k.mem,k.ag,Kx.aY k.ah ca.toNat (jS (au k.ah ca.toNat).aB bg).1,k.cache⟩,0,0) else (k,0,4)
  else if !Kx.allowed k.ag (Kx.reach k.mem (au k.ah ca.toNat).root) (jm (au k.ah ca.toNat).aB bg) then (k,0,2)
  else (⟨k.mem,k.ag,Kx.aY k.ah ca.toNat (jm (au k.ah ca.toNat).aB bg),k.cache⟩,0,0)) from rfl)
 obtain ⟨bad,hbad⟩:∃ bad:Bool,(!Kx.bK ca 0 2||!bT bg||(bQ==9&&ca==e))=bad:=⟨_,rfl⟩;rw [hbad] at HV;clear hss;have c0:=X1.o.c6;have p0:=X0.o.c4;unfold dW;go_enter func226,ntmps226;go_upto_region 1 with fail;go_cut [31] from 10 (fun s wx=>s=.bool bad/\wx=w2)
 case first =>
  cases hin:Kx.bK ca 0 2 with
  | false =>
   have Hb0:=af (show bad=true by rw [<-hbad,hin];rfl);have jR:=af hin;clear hbad hin;go_wp2_with fail;refine (qZ _ _).mono ?_;rintro en w3 ⟨rfl,rfl⟩;rw [jR.o];go_wp2_with fail;go_meet;exact ⟨by rw [Hb0.o],rfl⟩
  | true =>
   have jR:=af hin
   cases hrk:bT bg with
   | false =>
    have Hb0:=af (show bad=true by rw [<-hbad,hin,hrk];rfl);have Om:=af hrk;clear hbad hin hrk;go_wp2_with fail;refine (qZ _ _).mono ?_;rintro en w3 ⟨rfl,rfl⟩;rw [jR.o];go_wp2_with fail;refine (bY bg _ Jr.o).mono ?_;rintro en w3 ⟨rfl,rfl⟩;rw [Om.o];go_wp2_with fail;go_meet;exact ⟨by rw [Hb0.o],rfl⟩
   | true =>
    have Hb0:=af (show bad=(bQ==9&&ca==e) by rw [<-hbad,hin,hrk];rfl);have Om:=af hrk;clear hbad hin hrk
    cases h9:(bQ==9) with
    | false =>
     have Hb1:=af (show bad=false by rw [Hb0.o,h9];rfl);go_wp2_with fail;refine (qZ _ _).mono ?_;rintro en w3 ⟨rfl,rfl⟩;rw [jR.o];go_wp2_with fail;refine (bY bg _ Jr.o).mono ?_;rintro en w3 ⟨rfl,rfl⟩;rw [Om.o];go_wp2_with fail;go_meet;exact ⟨by rw [Hb1.o],rfl⟩
    | true =>
     have Hb1:=af (show bad=(ca==e) by rw [Hb0.o,h9];rfl);go_wp2_with fail;refine (qZ _ _).mono ?_;rintro en w3 ⟨rfl,rfl⟩;rw [jR.o];go_wp2_with fail;refine (bY bg _ Jr.o).mono ?_;rintro en w3 ⟨rfl,rfl⟩;rw [Om.o];go_wp2_with fail;go_meet;exact ⟨by rw [Hb1.o],rfl⟩
 case rest =>
  obtain ⟨rfl,rfl⟩:=hcut
  cases bad with
  | true =>
   have HF:=af (show f_ k ⟨bQ,e,ca,cb,cc,bg⟩=(k,0,3) by rw [HV.o,if_pos rfl]);clear HV hbad p0 c0;have p0:=X0.o.c4;have r0:=X2.o.c4;have jh:=X2.o.f4;go_wp2_with fail;exact afj HF.o X2.o Bw.o aC.o fun _ a b c d=>by simp [results,results226,go_sem,a,b,c,d]
  | false =>
   simp only [Bool.or_eq_false_iff,Bool.not_eq_false'] at hbad;obtain ⟨a0,a11⟩:=Kx.ay.1 hbad.1.1;have Om:=af hbad.1.2;obtain ⟨a,rfl⟩:=A2 a0;have PX:a<3:=by omega
   rw [show ((a:Int)).toNat=a from rfl] at HV;have HV:=af (by have:=HV.o;rw [if_neg (by decide)] at this;exact this);clear hbad a0 a11;have HM:=af (qE k e bg (A0 am k.mem.length cm) (A0 ai k.ag.length ci) (A0 ae k.ah.length ce) (A0 ac k.cache.length cq) wc HO.o.rk.e (by have:=H3.o;omega));go_wp2_with fail;refine HM.o.mono ?_;rintro en w3 ⟨rfl,hb⟩;clear HM p0 c0;obtain ⟨X0,X1,X2,HO,Bw,zz⟩:=ru hb aC.o s0 X0 X1 X2 HO Bw;clear hb zz
   cases wR:jQ k e bg with
   | false =>
    have HF:=af (show f_ k ⟨bQ,e,a,cb,cc,bg⟩=(k,0,1) by rw [HV.o,wR];rfl);clear HV wR;have p0:=X0.o.c4;have r0:=X2.o.c4;have jh:=X2.o.f4;go_wp2_with fail;exact afj HF.o X2.o Bw.o aC.o fun _ a b c d=>by simp [results,results226,go_sem,a,b,c,d]
   | true =>
    have HV:=af (by have:=HV.o;rw [wR,if_neg (by decide)] at this;exact this);clear wR;obtain ⟨be,oe,VN,ur,ev,hbel,q0,q1,hr⟩:=HO.o.e.re.at (k:=a) (by have:=H3.o;omega);obtain ⟨rfl,_,rfl⟩:=Za ev;clear ev;obtain ⟨bi,oi,ci',ev,_,_⟩:=bV.at HO.o.i.rs (k:=0) (by have:=fJ.o;omega);obtain ⟨rfl,_,rfl⟩:=Za ev;clear ev;obtain ⟨ar,cr,rfl,_,_⟩:=RS.val hr;have Hr:=af (show dK w3 _ (au k.ah a).aB from hr);clear hr;change w3.cell? _=some (A0 ar (au k.ah a).aB.length cr) at q0;have Oo:(a:Int)<(k.ah.length:Int):=by have:=H3.o;omega
    have SY:=af (MX.o a PX);have Yn:=af (DI Hs.o (e:=a) (by have:=H3.o;omega));have Yo:=af (Ol.o a PX);generalize (au k.ah a).aB=rs at q0 HV Hr Yn Yo;generalize (au k.ah a).root=rt at q1 HV SY;have p0:=X0.o.c4;have c0:=X1.o.c6
    by_cases h8:bQ=8
    ·have HV:=af (by have:=HV.o;rw [if_pos h8] at this;exact this);subst h8;have hb:=Below.bz (Below.refl w3.heap.size w3);have HA:=af (qc rs bg _ w3.drew (RS.below Hr.o hb) Yn.o Jr.o);rw [Yo.o,Om.o] at HA;have hs0:=af (fun (W:World) (hW:Below w3.heap.size w3 W)=>show W.cell? ⟨w.heap.size,2,none⟩=some (A0 (some ⟨be,oe,none⟩) k.ah.length ce)/\W.cell? ⟨w0.heap.size,2,none⟩=some (I_ a)/\W.cell? ⟨w0.heap.size,5,none⟩=some (.string bg)/\W.cell? ⟨be,oe+a*2,none⟩=some (A0 ar rs.length cr) from ⟨(X0.o.below hW).cell 2,(X1.o.below hW).cell 2,(X1.o.below hW).cell 5,(hW.cell (p:=⟨be,oe+a*2,none⟩) hbel).trans q0⟩)
     have hd:=hs0.o _ (Below.bz fZ);clear hb;go_wp2_with fail;go_region_held3 (fun wz=>wz.cell? ⟨w.heap.size,2,none⟩=some (A0 (some ⟨be,oe,none⟩) k.ah.length ce)/\wz.cell? ⟨w0.heap.size,2,none⟩=some (I_ a)/\wz.cell? ⟨w0.heap.size,5,none⟩=some (.string bg)/\wz.cell? ⟨be,oe+a*2,none⟩=some (A0 ar rs.length cr))
      (first | assumption | exact h4.o | go_keep)
      (first
       | (go_at_call 209;refine HA.o.mono ?_;rintro en w4 ⟨u4,rfl,iV,hb0⟩;have hb:=Below.gG hb0;have h4:=af (hs0.o _ hb);have HL:=af (show OS df 1 9 w4 w3.heap.size u4 (jS rs bg).1 from iV);clear hb0 iV))
     obtain ⟨a5,cz,rfl,_,_⟩:=RS.val HL.o.rs;have Ho:=af (HO.o.e.below hb);have Zh:=af hb.size;have Zb:=af Bw.o.size;clear h4 HA hs0 hd q0 q1 Hr p0 c0;obtain ⟨X0,X1,X2,HO,Bw,zz⟩:=ru hb aC.o s0 X0 X1 X2 HO Bw;clear hb zz
     cases hok2:(jS rs bg).2 with
     | false =>
      have HF:=af (show f_ k ⟨8,e,a,cb,cc,bg⟩=(k,0,4) by rw [HV.o,hok2];rfl);clear HV HL Ho;have p0:=X0.o.c4;have r0:=X2.o.c4;have jh:=X2.o.f4;go_wp2_with fail;exact afj HF.o X2.o Bw.o aC.o fun _ a b c d=>by simp [results,results226,go_sem,a,b,c,d]
     | true =>
      have HF:=af (show f_ k ⟨8,e,a,cb,cc,bg⟩=(⟨k.mem,k.ag,Kx.aY k.ah a (jS rs bg).1,k.cache⟩,0,0) by rw [HV.o,hok2];rfl);clear HV;obtain ⟨be2,Yk,ev,hbe,Oj,⟨Yl,hge⟩,⟨ze,hze⟩,hfe,hset⟩:=HO.o.aY (hi:=w3.heap.size) Ho.o (by have:=aC.o;have:=Zb.o;omega) Zh.o (e:=a) (by show a<k.ah.length;have:=H3.o;omega) ⟨a5,((jS rs bg).1).length,cz⟩ ((jS rs bg).1) HL.o;change Value.slice _ k.ah.length _=A0 _ k.ah.length _ at ev;simp only [Value.slice.injEq,A4,Addr.mk.injEq] at ev;obtain ⟨⟨rfl,rfl,_⟩,_,rfl⟩:=ev;have hset:=af hset;have p0:=X0.o.c4;have c0:=X1.o.c6;obtain ⟨X0,X1,X2,Bw⟩:=yD (a*2) (A0 a5 ((jS rs bg).1).length cz) hge (by decide) (by decide) hbe X0 X1 X2 Bw;obtain ⟨W9,t_⟩:=XP (w4.setCell ⟨be,a*2,none⟩ (A0 a5 ((jS rs bg).1).length cz))
      rw [t_] at X0 X1 X2 Bw;have HK:=af (show KO W9 base _ _ _ _ ⟨k.mem,k.ag,Kx.aY k.ah a ((jS rs bg).1),k.cache⟩ from t_ ▸ hset.o);have t0:=X0.o.c4;have r0:=X2.o.c4;have jh:=X2.o.f4;clear hset HO Ho HL;go_wp2_with fail;exact afk HF.o X2.o Bw.o aC.o HK.o fun _ a b c d=>by simp [results,results226,go_sem,a,b,c,d]
    have HV:=af (by have:=HV.o;rw [if_neg h8] at this;exact this);have h8b:(bQ==8)=false:=by simpa using h8
    clear h8;go_wp2_with fail;go_still_tail 9,(by kernel_rfl)
    obtain ⟨W4,PY⟩:=XP w3.drew;have hb:Below w3.heap.size w3 W4:=PY ▸ Below.bz fZ;change wpList _ _ _ _ _ w3.drew;rw [PY];have q1:=(hb.cell (p:=⟨be,oe+a*2+1,none⟩) hbel).trans q1;replace Hr:=af (RS.below Hr.o hb);have hbel:=A1 hbel hb.size;clear PY p0 c0 q0;obtain ⟨X0,X1,X2,HO,Bw,zz⟩:=ru hb aC.o s0 X0 X1 X2 HO Bw;clear hb zz;have HD:=af (G6 rs bg _ W4 Hr.o);go_wp2_with fail;refine HD.o.mono ?_;rintro en w4 ⟨u4,rfl,iV,hb⟩;obtain ⟨a5,cz,rfl,_,_⟩:=RS.val iV.rs;have HL:=af iV;have Ho:=af (HO.o.e.below hb);have Zh:=af hb.size;have Zb:=af Bw.o.size;have q1:=(hb.cell (p:=⟨be,oe+a*2+1,none⟩) hbel).trans q1;have hbel:=A1 hbel hb.size;clear iV HD Hr;obtain ⟨X0,X1,X2,HO,Bw,zz⟩:=ru hb aC.o s0 X0 X1 X2 HO Bw;clear hb zz
    have Yp:=af (kZ k.mem rt _ w4.drew (HO.o.m.rm.below (Below.bz fZ)) kG.o SY.o);have SX:=af (fun (W:World) (u:Value) (hW:Below w4.heap.size w4 W) (hu:RI W u (fU (Kx.reach k.mem rt)))=>jw k.ag (Kx.reach k.mem rt) (jm rs bg) _ u _ W (RS.below HO.o.i.rs hW) hu (RS.below HL.o.rs hW) (fun x hx=>by rw [fJ.o];exact jK x hx))
    have hs0:=af (fun (W:World) (hW:Below w4.heap.size w4 W)=>show W.cell? ⟨w.heap.size,0,none⟩=some (A0 am k.mem.length cm)/\W.cell? ⟨w.heap.size,1,none⟩=some (A0 (some ⟨bi,oi,none⟩) k.ag.length ci)/\W.cell? ⟨w.heap.size,2,none⟩=some (A0 (some ⟨be,oe,none⟩) k.ah.length ce)/\W.cell? ⟨w0.heap.size,2,none⟩=some (I_ a)/\W.cell? ⟨be,oe+a*2+1,none⟩=some (I_ rt) from ⟨(X0.o.below hW).cell 0,(X0.o.below hW).cell 1,(X0.o.below hW).cell 2,(X1.o.below hW).cell 2,(hW.cell (p:=⟨be,oe+a*2+1,none⟩) hbel).trans q1⟩)
    have hd:=hs0.o _ (Below.bz fZ);clear q1;go_wp2_with fail;go_region_held3 (fun wz=>wz.cell? ⟨w.heap.size,0,none⟩=some (A0 am k.mem.length cm)/\wz.cell? ⟨w.heap.size,1,none⟩=some (A0 (some ⟨bi,oi,none⟩) k.ag.length ci)/\wz.cell? ⟨w.heap.size,2,none⟩=some (A0 (some ⟨be,oe,none⟩) k.ah.length ce)/\wz.cell? ⟨w0.heap.size,2,none⟩=some (I_ a)/\wz.cell? ⟨be,oe+a*2+1,none⟩=some (I_ rt))
     (first | assumption | exact h5.o | exact h6.o | go_keep)
     (first
      | (go_at_call 175;refine Yp.o.mono ?_;rintro en w5 ⟨u5,rfl,zK,hb0⟩;have hb5:=Below.gG hb0;have h5:=af (hs0.o _ hb5);have Yq:=af (SX.o w5 u5 hb5 zK.ri);clear zK hb0)
      | (go_at_call 174;refine Yq.o.mono ?_;rintro en w6 ⟨rfl,hb6⟩;have hb:=hb5.trans (hb6.mono hb5.size);have h6:=af (hs0.o _ hb);clear hb6))
    replace HL:=af (HL.o.below hb);replace Ho:=af (Ho.o.below hb);replace Zh:=af (Nat.le_trans Zh.o hb.size);clear h5 h6 Yq SX Yp hb5 hd hs0;obtain ⟨X0,X1,X2,HO,Bw,zz⟩:=ru hb aC.o s0 X0 X1 X2 HO Bw;clear hb zz
    cases hal:Kx.allowed k.ag (Kx.reach k.mem rt) (jm rs bg) with
    | false =>
     have HF:=af (show f_ k ⟨bQ,e,a,cb,cc,bg⟩=(k,0,2) by rw [HV.o,if_pos (by rw [hal];rfl)]);clear HV HL Ho hal;have p0:=X0.o.c4;have r0:=X2.o.c4;have jh:=X2.o.f4;go_wp2_with fail;exact afj HF.o X2.o Bw.o aC.o fun _ a b c d=>by simp [results,results226,go_sem,a,b,c,d]
    | true =>
     have HF:=af (show f_ k ⟨bQ,e,a,cb,cc,bg⟩=(⟨k.mem,k.ag,Kx.aY k.ah a (jm rs bg),k.cache⟩,0,0) by rw [HV.o,if_neg (by rw [hal];decide)]);clear HV hal;obtain ⟨be2,Yk,ev,hbe,Oj,⟨Yl,hge⟩,⟨ze,hze⟩,hfe,hset⟩:=HO.o.aY (hi:=W4.heap.size) Ho.o (by have:=aC.o;have:=Zb.o;omega) Zh.o (e:=a) (by show a<k.ah.length;have:=H3.o;omega) ⟨a5,((jm rs bg)).length,cz⟩ ((jm rs bg)) HL.o;change Value.slice _ k.ah.length _=A0 _ k.ah.length _ at ev;simp only [Value.slice.injEq,A4,Addr.mk.injEq] at ev;obtain ⟨⟨rfl,rfl,_⟩,_,rfl⟩:=ev;have hset:=af hset;have p0:=X0.o.c4;have c0:=X1.o.c6;obtain ⟨X0,X1,X2,Bw⟩:=yD (a*2) (A0 a5 ((jm rs bg)).length cz) hge (by decide) (by decide) hbe X0 X1 X2 Bw
     obtain ⟨W9,t_⟩:=XP (w6.setCell ⟨be,a*2,none⟩ (A0 a5 ((jm rs bg)).length cz));rw [t_] at X0 X1 X2 Bw;have HK:=af (show KO W9 base _ _ _ _ ⟨k.mem,k.ag,Kx.aY k.ah a ((jm rs bg)),k.cache⟩ from t_ ▸ hset.o);have t0:=X0.o.c4;have r0:=X2.o.c4;have jh:=X2.o.f4;clear hset HO Ho HL;go_wp2_with fail;exact afk HF.o X2.o Bw.o aC.o HK.o fun _ a b c d=>by simp [results,results226,go_sem,a,b,c,d]
end Go.Proofs.YthcmmoibpgcgaaaGreatDoor
