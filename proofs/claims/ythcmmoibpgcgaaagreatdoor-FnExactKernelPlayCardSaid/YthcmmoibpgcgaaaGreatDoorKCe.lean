/- KC21, KC22, KC23, joined. -/
import Derived.Test.YthcmmoibpgcgaaaGreatDoorKCg
import Derived.Test.YthcmmoibpgcgaaaGreatDoorKCc
import Derived.Test.YthcmmoibpgcgaaaGreatDoorKCd
set_option maxHeartbeats 4000000
set_option maxRecDepth 100000
set_option linter.all false
open List renaming getElem_cons_zero->A1,getElem?_cons_zero->A2
open Nat renaming not_lt_zero->A3,le_succ_of_le->A4
open Go.Value renaming slice->A0
open Go.Proofs.Tryz
namespace Go.Proofs.YthcmmoibpgcgaaaGreatDoor
open Go.RowKit Kx
variable {base sz hi base':Nat}{w w':World}{e':TypeId}{u v:Value}{m:List (List Int)}
theorem Jh (k:Kx.Kernel) (c:Kx.Call) (e:Nat) (base:Nat) (um ui ue uc:Value) (w:World) (h:KO w base um ui ue uc k) (hbase:base<=w.heap.size) (hok:az k=true) (hs:iQ k) (hce:c.env=e) (he:e<3) :
  Calls prog 221 #[.agg #[um,ui,ue,uc],dW c] w (vk base w (Kx.give k c)):=by
 obtain ⟨bQ,JF,ca,cb,cc,bg⟩:=c;simp only at hce;subst hce;obtain ⟨am,cm,ai,ci,ae,ce,ac,cq,w0,w1,w2,rfl,rfl,rfl,rfl,hw0,hw1,hw2,X0,X1,X2,Bw,HO,s0,s1,s2⟩:=pF h hbase bQ e ca cb cc bg;obtain ⟨hmo,jI,h12,hco,h3,hro⟩:=aI hok;have kG:=af hmo;have nM:=af jI;have fJ:=af h12;have H3:=af h3;have bF:=af hok;have Hs:=af hs;have aC:=af hbase;clear h hok hs hmo jI h12 hco h3 hro;have HV:=af (show Kx.give k ⟨bQ,e,ca,cb,cc,bg⟩=(if aO k ⟨bQ,e,ca,cb,cc,bg⟩ 1≠0 then (k,0,aO k ⟨bQ,e,ca,cb,cc,bg⟩ 1) else if (Kx.inf k.ag ca.toNat).refs > 0 then (k,0,2) else (⟨k.mem,k.ag.set ca.toNat aG.zero,k.ah,k.cache⟩,0,0)) from rfl);have HC:=af (sZ k ⟨bQ,e,ca,cb,cc,bg⟩ e 1 _ _ _ _ w2 HO.o.rk fJ.o H3.o rfl he (.inl rfl));have p0:=X0.o.c4;obtain ⟨c0,c1,c2,c3,c4,c5⟩:=X1.o.c6
 unfold dW;go_enter func221,ntmps221;go_wp2_with fail;refine HC.o.mono ?_;rintro en w3 ⟨rfl,hb⟩;clear HC p0;clear c0 c1 c2 c3 c4 c5;obtain ⟨X0,X1,X2,HO,Bw,zz⟩:=ru hb aC.o s0 X0 X1 X2 HO Bw;clear hb zz
 by_cases hc:aO k ⟨bQ,e,ca,cb,cc,bg⟩ 1=0
 case neg =>
  have HF:=af (show Kx.give k ⟨bQ,e,ca,cb,cc,bg⟩=(k,0,aO k ⟨bQ,e,ca,cb,cc,bg⟩ 1) by rw [HV.o,if_pos hc]);have hcb:(aO k ⟨bQ,e,ca,cb,cc,bg⟩ 1 != 0)=true:=by simpa using hc
  have Hc:=af hc;clear HV hc;generalize aO k ⟨bQ,e,ca,cb,cc,bg⟩ 1=code at Hc hcb HF ⊢;have p0:=X0.o.c4;have r0:=X2.o.c4;have jh:=X2.o.f4;go_wp2_with fail;obtain ⟨e0,e1,e2,e3,hB4,hK4⟩:=fG X2.o rfl Bw.o (by have:=aC.o;omega) (A0 am k.mem.length cm) (A0 ai k.ag.length ci) (A0 ae k.ah.length ce) (A0 ac k.cache.length cq);refine af7 (by simp [results,results221,go_sem,e0,e1,e2,e3]<;>rfl) ?_;exact jY HF.o Hc.o hB4
 replace HV:=af (by have:=HV.o;rw [if_neg (by rw [hc];simp)] at this;exact this);rw [hc];obtain ⟨f,hf,dG,hf1⟩:=qG hc;simp only at hf;subst hf;rw [show ((f:Int)).toNat=f from rfl] at HV;clear hc
 by_cases hr:0<(Kx.inf k.ag f).refs
 ·have HF:=af (show Kx.give k ⟨bQ,e,f,cb,cc,bg⟩=(k,0,2) by rw [HV.o,if_pos hr]);have HC:=af (wH k.ag f _ w3 HO.o.rk.i Hs.o.1 nM.o dG fJ.o hf1 hr);clear HV hr hf1;have p0:=X0.o.c4;obtain ⟨c0,c1,c2,c3,c4,c5⟩:=X1.o.c6;go_wp2_with fail;refine HC.o.mono ?_;rintro en w4 ⟨⟨u4,rfl⟩,hb⟩;clear HC p0;clear c0 c1 c2 c3 c4 c5;obtain ⟨X0,X1,X2,HO,Bw,zz⟩:=ru hb aC.o s0 X0 X1 X2 HO Bw;clear hb zz;have p0:=X0.o.c4;have r0:=X2.o.c4;have jh:=X2.o.f4;go_wp2_with fail;exact afj HF.o X2.o Bw.o aC.o fun _ a b c d=>by simp [results,results221,go_sem,a,b,c,d]
 have HF:=af (show Kx.give k ⟨bQ,e,f,cb,cc,bg⟩=(⟨k.mem,k.ag.set f aG.zero,k.ah,k.cache⟩,0,0) by rw [HV.o,if_neg hr]);have HC:=af (xJ k.ag f _ w3 HO.o.rk.i Hs.o.1 nM.o dG fJ.o hf1 hr);clear HV hr hf1;have p0:=X0.o.c4;obtain ⟨c0,c1,c2,c3,c4,c5⟩:=X1.o.c6;go_wp2_with fail;refine HC.o.mono ?_;rintro en w4 ⟨u4,rfl,ho,hb⟩;clear HC p0;clear c0 c1 c2 c3 c4 c5;obtain ⟨a5,c5,rfl,_,_⟩:=RS.val ho.rs;have HI:=af ho;have z3:=Bw.o.size;clear ho;obtain ⟨X0,X1,X2,HO,Bw,zz⟩:=ru hb aC.o s0 X0 X1 X2 HO Bw;clear hb zz;obtain ⟨L,hL⟩:=XP (k.ag.set f aG.zero);rw [hL] at HI HF ⊢;have HK:=af (show KO w4 base _ _ _ _ ⟨k.mem,L,k.ah,k.cache⟩ from ⟨HO.o.m,HI.o.mono (by have:=aC.o;omega),HO.o.e,HO.o.c⟩);clear HI hL;have p0:=X0.o.c4;have r0:=X2.o.c4
 have jh:=X2.o.f4;have UN:=X0.o.frozen 1;obtain ⟨X0,X1,X2,HK,Bw⟩:=Gt (A0 a5 L.length c5) (by omega) (by omega) (by have:=aC.o;omega) X0 X1 X2 HK Bw;go_wp2_with fail;exact afk HF.o X2.o Bw.o aC.o HK.o fun _ a b c d=>by simp [results,results221,go_sem,a,b,c,d]
theorem Ji (k:Kx.Kernel) (c:Kx.Call) (e:Nat) (base:Nat) (um ui ue uc:Value) (w:World) (h:KO w base um ui ue uc k) (hbase:base<=w.heap.size) (hok:az k=true) (hs:iQ k) (hce:c.env=e) (he:e<3) :
  Calls prog 222 #[.agg #[um,ui,ue,uc],dW c] w (vk base w (oP k c)):=by
 obtain ⟨bQ,JF,ca,cb,cc,bg⟩:=c;simp only at hce;subst hce;obtain ⟨am,cm,ai,ci,ae,ce,ac,cq,w0,w1,w2,rfl,rfl,rfl,rfl,hw0,hw1,hw2,X0,X1,X2,Bw,HO,s0,s1,s2⟩:=pF h hbase bQ e ca cb cc bg;obtain ⟨hmo,jI,h12,hco,h3,hro⟩:=aI hok;have kG:=af hmo;have nM:=af jI;have fJ:=af h12;have H3:=af h3;have bF:=af hok;have Hs:=af hs;have aC:=af hbase;clear h hok hs hmo jI h12 hco h3 hro;have HV:=af (show oP k ⟨bQ,e,ca,cb,cc,bg⟩=(if aO k ⟨bQ,e,ca,cb,cc,bg⟩ 1≠0 then (k,0,aO k ⟨bQ,e,ca,cb,cc,bg⟩ 1) else if !Kx.bK cb 0 3||!Kx.bK cc 0 9999 then (k,0,3) else (⟨Kx.bG k.mem ca.toNat cb.toNat cc,k.ag,k.ah,k.cache⟩,0,0)) from rfl);have HC:=af (sZ k ⟨bQ,e,ca,cb,cc,bg⟩ e 1 _ _ _ _ w2 HO.o.rk fJ.o H3.o rfl he (.inl rfl));obtain ⟨p0,p1,p2,p3⟩:=X0.o.c4
 obtain ⟨c0,c1,c2,c3,c4,c5⟩:=X1.o.c6;unfold dW;go_enter func222,ntmps222;go_wp2_with fail;refine HC.o.mono ?_;rintro en w3 ⟨rfl,hb⟩;clear HC p0 p1 p2 p3;clear c0 c1 c2 c3 c4 c5;obtain ⟨X0,X1,X2,HO,Bw,zz⟩:=ru hb aC.o s0 X0 X1 X2 HO Bw;clear hb zz
 by_cases hc:aO k ⟨bQ,e,ca,cb,cc,bg⟩ 1=0
 case neg =>
  have HF:=af (show oP k ⟨bQ,e,ca,cb,cc,bg⟩=(k,0,aO k ⟨bQ,e,ca,cb,cc,bg⟩ 1) by rw [HV.o,if_pos hc]);have hcb:(aO k ⟨bQ,e,ca,cb,cc,bg⟩ 1 != 0)=true:=by simpa using hc
  have Hc:=af hc;clear HV hc;generalize aO k ⟨bQ,e,ca,cb,cc,bg⟩ 1=code at Hc hcb HF ⊢;obtain ⟨p0,p1,p2,p3⟩:=X0.o.c4;obtain ⟨r0,r1,r2,r3⟩:=X2.o.c4;obtain ⟨jh,ji,jk,jl⟩:=X2.o.f4;go_wp2_with fail;obtain ⟨e0,e1,e2,e3,hB4,hK4⟩:=fG X2.o rfl Bw.o (by have:=aC.o;omega) (A0 am k.mem.length cm) (A0 ai k.ag.length ci) (A0 ae k.ah.length ce) (A0 ac k.cache.length cq);refine af7 (by simp [results,results222,go_sem,e0,e1,e2,e3]<;>rfl) ?_;exact jY HF.o Hc.o hB4
 replace HV:=af (by have:=HV.o;rw [if_neg (by rw [hc];simp)] at this;exact this);rw [hc];obtain ⟨f,hf,dG,hf1⟩:=qG hc;simp only at hf;subst hf;rw [show ((f:Int)).toNat=f from rfl] at HV;clear hc
 cases hib:Kx.bK cb 0 3 with
 | false =>
  have HF:=af (show oP k ⟨bQ,e,f,cb,cc,bg⟩=(k,0,3) by rw [HV.o,hib];rfl);have Io:=af hib;clear HV hib;obtain ⟨c0,c1,c2,c3,c4,c5⟩:=X1.o.c6;go_wp2_with fail;refine (dJ _ _ _ _).mono ?_;rintro en w4 ⟨rfl,rfl⟩;rw [Io.o];obtain ⟨p0,p1,p2,p3⟩:=X0.o.c4;obtain ⟨r0,r1,r2,r3⟩:=X2.o.c4;obtain ⟨jh,ji,jk,jl⟩:=X2.o.f4;go_wp2_with fail;exact afj HF.o X2.o Bw.o aC.o fun _ a b c d=>by simp [results,results222,go_sem,a,b,c,d]
 | true =>
  cases hic:Kx.bK cc 0 9999 with
  | false =>
   have HF:=af (show oP k ⟨bQ,e,f,cb,cc,bg⟩=(k,0,3) by rw [HV.o,hib,hic];rfl);have Io:=af hib;have X7:=af hic;clear HV hib hic;obtain ⟨c0,c1,c2,c3,c4,c5⟩:=X1.o.c6;go_wp2_with fail;refine (dJ _ _ _ _).mono ?_;rintro en w4 ⟨rfl,rfl⟩;rw [Io.o];go_wp2_with fail;refine (dJ _ _ _ _).mono ?_;rintro en w4 ⟨rfl,rfl⟩;rw [X7.o];obtain ⟨p0,p1,p2,p3⟩:=X0.o.c4;obtain ⟨r0,r1,r2,r3⟩:=X2.o.c4;obtain ⟨jh,ji,jk,jl⟩:=X2.o.f4;go_wp2_with fail;exact afj HF.o X2.o Bw.o aC.o fun _ a b c d=>by simp [results,results222,go_sem,a,b,c,d]
  | true =>
   obtain ⟨b0,b3⟩:=Kx.ay.1 hib;obtain ⟨b,rfl⟩:=Int.eq_ofNat_of_zero_le b0;have HF:=af (show oP k ⟨bQ,e,f,b,cc,bg⟩=(⟨Kx.bG k.mem f b cc,k.ag,k.ah,k.cache⟩,0,0) by rw [HV.o,hib,hic];rfl);have Io:=af hib;have X7:=af hic;clear HV hib hic b0;have hb4:b<4:=by omega
   obtain ⟨uk,hr4,_⟩:=mem_row kG.o dG;have kX:=af uk;have Oz:=af hr4;have Wj:(f:Int)<(k.mem.length:Int):=by omega
   have MO:(b:Int)<4:=by omega
   clear uk hr4 b3;obtain ⟨W9,t_⟩:=XP w3.drew;have hb:Below w3.heap.size w3 W9:=t_ ▸ Below.bz fZ;obtain ⟨bm,TB,g,cg,eu,hrow,hgb,TC,⟨Jq,hgk⟩,⟨z,hz⟩,hfz,hset⟩:=(HO.o.below hb).bG (f:=f) (a:=b) (by rw [kX.o];exact dG) (by rw [Oz.o];exact hb4);rw [Oz.o] at hrow;obtain ⟨rfl,_,rfl⟩:=Za eu;clear eu;have hset:=af (hset cc);have hrow0:w3.cell? ⟨bm,f,none⟩=some (A0 (some ⟨g,0,none⟩) 4 cg):=by rw [<-t_] at hrow;exact hrow
   have Ir:=af t_;clear t_;obtain ⟨p0,p1,p2,p3⟩:=X0.o.c4;obtain ⟨c0,c1,c2,c3,c4,c5⟩:=X1.o.c6;go_wp2_with fail;refine (dJ _ _ _ _).mono ?_;rintro en w4 ⟨rfl,rfl⟩;rw [Io.o];go_wp2_with fail;refine (dJ _ _ _ _).mono ?_;rintro en w4 ⟨rfl,rfl⟩;rw [X7.o];go_wp2_with fail;go_still_tail 11,(by kernel_rfl)
   change wpList _ _ _ _ _ w3.drew;rw [Ir.o];obtain ⟨X0,X1,X2,Bw⟩:=yD b (I_ cc) hgk (by decide) (by decide) hgb (af (X0.o.below hb)) (af (X1.o.below hb)) (af (X2.o.below hb)) (af (Bw.o.go hb aC.o));clear Ir p0 p1 p2 p3 c0 c1 c2 c3 c4 c5;obtain ⟨p0,p1,p2,p3⟩:=X0.o.c4;obtain ⟨r0,r1,r2,r3⟩:=X2.o.c4;obtain ⟨jh,ji,jk,jl⟩:=X2.o.f4;go_wp2_with fail;exact afk HF.o X2.o Bw.o aC.o hset.o fun _ a b c d=>by simp [results,results222,go_sem,a,b,c,d]
theorem Jj (k:Kx.Kernel) (c:Kx.Call) (e:Nat) (base:Nat) (um ui ue uc:Value) (w:World) (h:KO w base um ui ue uc k) (hbase:base<=w.heap.size) (hok:az k=true) (hs:iQ k) (hce:c.env=e) (he:e<3) (hss:c.name.size<=9223372036854775807) :
  Calls prog 220 #[.agg #[um,ui,ue,uc],dW c] w (vk base w (Kx.take k c)):=by
 obtain ⟨bQ,JF,ca,cb,cc,bg⟩:=c;simp only at hce;subst hce;obtain ⟨am,cm,ai,ci,ae,ce,ac,cq,w0,w1,w2,rfl,rfl,rfl,rfl,hw0,hw1,hw2,X0,X1,X2,Bw,HO,s0,s1,s2⟩:=pF h hbase bQ e ca cb cc bg;obtain ⟨hmo,jI,h12,hco,h3,hro⟩:=aI hok;have kG:=af hmo;have nM:=af jI;have fJ:=af h12;have H3:=af h3;have bF:=af hok;have Hs:=af hs;have aC:=af hbase;clear h hok hs hmo jI h12 hco h3 hro;have HV:=af (show Kx.take k ⟨bQ,e,ca,cb,cc,bg⟩=(if !bT bg then (k,0,3) else if !jQ k e bg then (k,0,1) else match Kx.free k.ag with | none=>((k,0,4):Kx.Out) | some f=>((⟨k.mem.set f [0,0,0,0],k.ag.set f ⟨1,bg,0⟩,k.ah,k.cache⟩,f,0):Kx.Out)) from rfl)
 have Jr:=af (show bg.size<=9223372036854775807 from hss);have HM:=af (qE k e bg (A0 am k.mem.length cm) (A0 ai k.ag.length ci) (A0 ae k.ah.length ce) (A0 ac k.cache.length cq) w2 HO.o.rk.e (by have:=H3.o;omega));clear hss;have p0:=X0.o.c4;obtain ⟨c0,c1,c2,c3,c4,c5⟩:=X1.o.c6
 cases hro:bT bg with
 | false =>
  have HF:=af (show Kx.take k ⟨bQ,e,ca,cb,cc,bg⟩=(k,0,3) by rw [HV.o,hro];rfl);have mW:=af hro;clear HV hro HM;unfold dW;go_enter func220,ntmps220;go_wp2_with fail;refine (bY bg _ Jr.o).mono ?_;rintro en w3 ⟨rfl,rfl⟩;rw [mW.o];have r0:=X2.o.c4;have jh:=X2.o.f4;go_wp2_with fail;exact afj HF.o X2.o Bw.o aC.o fun _ a b c d=>by simp [results,results220,go_sem,a,b,c,d]
 | true =>
  have mW:=af hro;unfold dW;go_enter func220,ntmps220;go_wp2_with fail;refine (bY bg _ Jr.o).mono ?_;rintro en w3 ⟨rfl,rfl⟩;rw [mW.o];go_wp2_with fail;refine HM.o.mono ?_;rintro en w3 ⟨rfl,hb⟩;clear HM p0;clear c0 c1 c2 c3 c4 c5;obtain ⟨X0,X1,X2,HO,Bw,zz⟩:=ru hb aC.o s0 X0 X1 X2 HO Bw;clear hb zz
  cases wR:jQ k e bg with
  | false =>
   have HF:=af (show Kx.take k ⟨bQ,e,ca,cb,cc,bg⟩=(k,0,1) by rw [HV.o,hro,wR];rfl);clear HV hro wR;have p0:=X0.o.c4;have r0:=X2.o.c4;have jh:=X2.o.f4;go_wp2_with fail;exact afj HF.o X2.o Bw.o aC.o fun _ a b c d=>by simp [results,results220,go_sem,a,b,c,d]
  | true =>
   have Ru:=af (Bq k.ag _ w3 HO.o.rk.i);have p0:=X0.o.c4;obtain ⟨c0,c1,c2,c3,c4,c5⟩:=X1.o.c6;go_wp2_with fail;refine Ru.o.mono ?_;rintro en w4 ⟨rfl,rfl⟩;clear Ru
   cases hfr:Kx.free k.ag with
   | none =>
    have HF:=af (show Kx.take k ⟨bQ,e,ca,cb,cc,bg⟩=(k,0,4) by rw [HV.o,hro,wR,hfr];rfl);rw [show uX k.ag=-1 by unfold uX;rw [hfr]];clear HV hro wR hfr;have r0:=X2.o.c4;have jh:=X2.o.f4;go_wp2_with fail;exact afj HF.o X2.o Bw.o aC.o fun _ a b c d=>by simp [results,results220,go_sem,a,b,c,d]
   | some f =>
    have HF:=af (show Kx.take k ⟨bQ,e,ca,cb,cc,bg⟩=((⟨k.mem.set f [0,0,0,0],k.ag.set f ⟨1,bg,0⟩,k.ah,k.cache⟩,f,0):Kx.Out) by rw [HV.o,hro,wR,hfr] <;> rfl)
    rw [(zD hfr).2];have dG:f<12:=by have:=(zD hfr).1;have:=fJ.o;omega
    have HC:=af (xI k.ag bg f _ w3 HO.o.rk.i Hs.o.1 nM.o mW.o Jr.o hfr fJ.o);clear HV hro wR hfr;go_wp2_with fail;refine HC.o.mono ?_;rintro en w4 ⟨u4,rfl,ho,hb⟩;clear HC p0;clear c0 c1 c2 c3 c4 c5;obtain ⟨a5,c5,rfl,_,_⟩:=RS.val ho.rs;have HI:=af ho;have z3:=Bw.o.size;clear ho;obtain ⟨X0,X1,X2,HO,Bw,zz⟩:=ru hb aC.o s0 X0 X1 X2 HO Bw;clear hb zz;obtain ⟨L,hL⟩:=XP (k.ag.set f ⟨1,bg,0⟩);rw [hL] at HI HF ⊢;have HK:=af (show KO w4 base _ _ _ _ ⟨k.mem,L,k.ah,k.cache⟩ from ⟨HO.o.m,HI.o.mono (by have:=aC.o;omega),HO.o.e,HO.o.c⟩);have kX:=af (mem_row kG.o (show 0<12 by omega)).1;have Wj:(f:Int)<(k.mem.length:Int):=by have:=kX.o;omega
    clear HI hL HO;have p0:=X0.o.c4;have UN:=X0.o.frozen 1;obtain ⟨X0,X1,X2,HK,Bw⟩:=Gt (A0 a5 L.length c5) (by omega) (by omega) (by have:=aC.o;omega) X0 X1 X2 HK Bw;obtain ⟨W5,AU⟩:=XP (w4.setCell ⟨w.heap.size,1,none⟩ (A0 a5 L.length c5));rw [AU] at X0 X1 X2 HK Bw;have q0:=X0.o.cell 0;simp only [A2,List.getElem?_cons_succ] at q0;have hmk:=Yx;obtain ⟨W6,MF⟩:=XP W5.drew;have hb:Below W5.heap.size W5 W6:=MF ▸ Below.bz fZ;have Vq:=af MF;have z5:=Bw.o.size;clear MF;obtain ⟨X0,X1,X2,HO,Bw,zz⟩:=ru hb aC.o s0 X0 X1 X2 HK Bw;clear hb zz HK;have S5:=X0.o.cell 0;simp only [A2] at S5;obtain ⟨W7,Iq⟩:=XP (W6.alloc (.cells #[I_ 0,I_ 0,I_ 0,I_ 0] 3));have hb:Below W6.heap.size W6 W7:=Iq ▸ dm
    have HN:=af (show OI W7 W6.heap.size (dM ⟨some ⟨W6.heap.size,0,none⟩,4,4⟩) [0,0,0,0] from Iq ▸ (OS.lit (l:=[0,0,0,0]) (f:=iR) (sz:=1) (e:=3) (w:=W6) (base:=W6.heap.size) aW _ rfl rfl (by simp)).oi);have z6:=Bw.o.size;obtain ⟨bm,TB,eu,hgb,⟨Jq,hgk⟩,⟨z,hz⟩,hfz,hset⟩:=(HO.o.below hb).setRow (hi:=W6.heap.size) (HO.o.m.below hb) (by have:=aC.o;omega) hb.size (f:=f) (by have:=kX.o;show f<k.mem.length;omega) ⟨some ⟨W6.heap.size,0,none⟩,4,4⟩ [0,0,0,0] HN.o;change Value.slice _ k.mem.length _=A0 _ k.mem.length _ at eu;obtain ⟨rfl,_,rfl⟩:=Za eu;clear eu;have hset:=af hset;obtain ⟨X0,X1,X2,HO,Bw,zz⟩:=ru hb aC.o s0 X0 X1 X2 HO Bw;clear hb zz HN;have S6:=X0.o.cell 0;simp only [A2] at S6;obtain ⟨X0,X1,X2,Bw⟩:=yD f (A0 (some ⟨W6.heap.size,0,none⟩) 4 4) hgk (by decide) (by decide) hgb X0 X1 X2 Bw
    have HK:=af (show KO (W7.setCell ⟨bm,f,none⟩ (A0 (some ⟨W6.heap.size,0,none⟩) 4 4)) base _ _ _ _ ⟨k.mem.set f [0,0,0,0],L,k.ah,k.cache⟩ from hset.o);clear hset HO;have S7:=X0.o.cell 0;simp only [A2] at S7;go_wp2_with fail;refine wp_region_held_drew (S:=(fun wz:World=>wz.cell? ⟨w.heap.size,0,none⟩=some (A0 (some ⟨bm,0,none⟩) k.mem.length cm))) (by kernel_rfl) (by rw [Vq.o];exact S5) (fun hHeld=>?_)
    rw [Vq.o];rw [Vq.o] at hHeld;clear Vq;refine afU 0 ?_;refine tH 2 ?_;refine ahk 3 fun K hK=>?_
    (go_simp)
    refine hK.out _ _ ?_ (fun hHeld=>?_)
    ·first | assumption | exact S6 | exact S7
    clear hK K;refine nH ?_;refine tH 4 ?_;refine ahk 5 fun K hK=>?_
    (go_simp)
    refine hK.out _ _ ?_ (fun hHeld=>?_)
    ·first | assumption | exact S6 | exact S7
    clear hK K;refine nH ?_;refine wpAnyH_done (by kernel_rfl) ?_ _;clear S5 S6 S7 p0 UN q0 Iq;have p0:=X0.o.c4;have r0:=X2.o.c4;have jh:=X2.o.f4;go_wp2_with fail;exact afk HF.o X2.o Bw.o aC.o HK.o fun _ a b c d=>by simp [results,results220,go_sem,a,b,c,d]
theorem qX {W V:World} {r:Kx.Out} {a b c d:Value} (hs:Sl a/\Sl b/\Sl c/\Sl d) (hB:Kept base w V) (hko:r.2.2=0->∃ um ui ue uc,(.agg #[a,b,c,d]:Value)=.agg #[um,ui,ue,uc]/\KO W base um ui ue uc r.1) (hK:∀ um ui ue uc k,KO W base um ui ue uc k->KO V base um ui ue uc k) :
  vk base w r (.returned (.tuple #[.agg #[a,b,c,d],I_ r.2.1,I_ r.2.2])) V:=
 ⟨hB,_,rfl,⟨a,b,c,d,rfl,hs⟩,fun h=>by obtain ⟨um,ui,ue,uc,e,hk⟩:=hko h;exact ⟨um,ui,ue,uc,e,hK _ _ _ _ _ hk⟩⟩
theorem MR (k:Kx.Kernel) (c:Kx.Call) (e:Nat) (base:Nat) (um ui ue uc:Value) (w:World) (h:KO w base um ui ue uc k) (hbase:base<=w.heap.size) (hok:az k=true) (hs:iQ k) (hce:c.env=e) (he:e<3) (hss:c.name.size<=9223372036854775807) :
  Calls prog 168 #[.agg #[um,ui,ue,uc],dW c] w (vk base w (qm k c)):=by
 obtain ⟨bQ,JF,ca,cb,cc,bg⟩:=c;simp only at hce;subst hce;obtain ⟨am,cm,ai,ci,ae,ce,ac,cq,w0,w1,w2,rfl,rfl,rfl,rfl,hw0,hw1,hw2,X0,X1,X2,Bw,HO,s0,s1,s2⟩:=pF h hbase bQ e ca cb cc bg;have Ol:=af (jW hok);obtain ⟨hmo,jI,h12,hco,h3,hro⟩:=aI hok;have kG:=af hmo;have nM:=af jI;have fJ:=af h12;have H3:=af h3;have bF:=af hok;have Hs:=af hs;have aC:=af hbase;clear h hok hs hmo jI h12 hco h3 hro;have Jr:=af (show bg.size<=9223372036854775807 from hss);clear hss;have hb2:=af (show base<=w2.heap.size by have:=aC.o;have:=Bw.o.size;omega)
 by_cases k1:bQ=1
 ·subst k1;obtain ⟨r,hr⟩:=XP (Kx.take k ⟨1,e,ca,cb,cc,bg⟩);have HF:=af (show qm k ⟨1,e,ca,cb,cc,bg⟩=r from hr);have HC:=af (Jj k ⟨1,e,ca,cb,cc,bg⟩ e base _ _ _ _ w2 HO.o hb2.o bF.o Hs.o rfl he Jr.o);rw [hr] at HC;clear hr;have p0:=X0.o.c4;have c0:=X1.o.c6;unfold dW;go_enter func168,ntmps168;go_wp2_with fail;refine HC.o.mono ?_;rintro en w3 ⟨hK3,v3,rfl,⟨x0,x1,x2,x3,rfl,⟨a0,n0,m0,rfl⟩,⟨a1,n1,m1,rfl⟩,⟨a2,n2,m2,rfl⟩,⟨a3,n3,m3,rfl⟩⟩,hko⟩;have tZ:=af hko;replace X2:=af (hK3.x _ _ _ aJ X2.o);replace Bw:=af (Bw.o.trans hK3);clear HC hK3 hko p0 c0 X0 X1 HO;have r0:=X2.o.c4;have jh:=X2.o.f4;go_wp2_with fail
  obtain ⟨e0,e1,e2,e3,hB4,hK4⟩:=fG X2.o rfl Bw.o (by have:=aC.o;omega) (A0 a0 n0 m0) (A0 a1 n1 m1) (A0 a2 n2 m2) (A0 a3 n3 m3);refine af7 (by simp [results,results168,go_sem,e0,e1,e2,e3]<;>rfl) ?_;rw [HF.o];exact qX ⟨⟨_,_,_,rfl⟩,⟨_,_,_,rfl⟩,⟨_,_,_,rfl⟩,⟨_,_,_,rfl⟩⟩ hB4 tZ.o (hK4 rfl)
 have n1:(bQ==1)=false:=by simpa using k1
 by_cases k2:bQ=2
 ·subst k2;obtain ⟨r,hr⟩:=XP (Kx.give k ⟨2,e,ca,cb,cc,bg⟩);have HF:=af (show qm k ⟨2,e,ca,cb,cc,bg⟩=r from hr);have HC:=af (Jh k ⟨2,e,ca,cb,cc,bg⟩ e base _ _ _ _ w2 HO.o hb2.o bF.o Hs.o rfl he);rw [hr] at HC;clear hr;have p0:=X0.o.c4;have c0:=X1.o.c6;unfold dW;go_enter func168,ntmps168;go_wp2_with fail;refine HC.o.mono ?_;rintro en w3 ⟨hK3,v3,rfl,⟨x0,x1,x2,x3,rfl,⟨a0,n0,m0,rfl⟩,⟨a1,n1,m1,rfl⟩,⟨a2,n2,m2,rfl⟩,⟨a3,n3,m3,rfl⟩⟩,hko⟩;have tZ:=af hko;replace X2:=af (hK3.x _ _ _ aJ X2.o);replace Bw:=af (Bw.o.trans hK3);clear HC hK3 hko p0 c0 X0 X1 HO;have r0:=X2.o.c4;have jh:=X2.o.f4;go_wp2_with fail
  obtain ⟨e0,e1,e2,e3,hB4,hK4⟩:=fG X2.o rfl Bw.o (by have:=aC.o;omega) (A0 a0 n0 m0) (A0 a1 n1 m1) (A0 a2 n2 m2) (A0 a3 n3 m3);refine af7 (by simp [results,results168,go_sem,e0,e1,e2,e3]<;>rfl) ?_;rw [HF.o];exact qX ⟨⟨_,_,_,rfl⟩,⟨_,_,_,rfl⟩,⟨_,_,_,rfl⟩,⟨_,_,_,rfl⟩⟩ hB4 tZ.o (hK4 rfl)
 have n2:(bQ==2)=false:=by simpa using k2
 by_cases k3:bQ=3
 ·subst k3;obtain ⟨r,hr⟩:=XP (oP k ⟨3,e,ca,cb,cc,bg⟩);have HF:=af (show qm k ⟨3,e,ca,cb,cc,bg⟩=r from hr);have HC:=af (Ji k ⟨3,e,ca,cb,cc,bg⟩ e base _ _ _ _ w2 HO.o hb2.o bF.o Hs.o rfl he);rw [hr] at HC;clear hr;have p0:=X0.o.c4;have c0:=X1.o.c6;unfold dW;go_enter func168,ntmps168;go_wp2_with fail;refine HC.o.mono ?_;rintro en w3 ⟨hK3,v3,rfl,⟨x0,x1,x2,x3,rfl,⟨a0,n0,m0,rfl⟩,⟨a1,n1,m1,rfl⟩,⟨a2,n2,m2,rfl⟩,⟨a3,n3,m3,rfl⟩⟩,hko⟩;have tZ:=af hko;replace X2:=af (hK3.x _ _ _ aJ X2.o);replace Bw:=af (Bw.o.trans hK3);clear HC hK3 hko p0 c0 X0 X1 HO;have r0:=X2.o.c4;have jh:=X2.o.f4;go_wp2_with fail
  obtain ⟨e0,e1,e2,e3,hB4,hK4⟩:=fG X2.o rfl Bw.o (by have:=aC.o;omega) (A0 a0 n0 m0) (A0 a1 n1 m1) (A0 a2 n2 m2) (A0 a3 n3 m3);refine af7 (by simp [results,results168,go_sem,e0,e1,e2,e3]<;>rfl) ?_;rw [HF.o];exact qX ⟨⟨_,_,_,rfl⟩,⟨_,_,_,rfl⟩,⟨_,_,_,rfl⟩,⟨_,_,_,rfl⟩⟩ hB4 tZ.o (hK4 rfl)
 have n3:(bQ==3)=false:=by simpa using k3
 by_cases k4:bQ=4
 ·subst k4;obtain ⟨r,hr⟩:=XP (lu k ⟨4,e,ca,cb,cc,bg⟩);have HF:=af (show qm k ⟨4,e,ca,cb,cc,bg⟩=r from hr);have HC:=af (DX k ⟨4,e,ca,cb,cc,bg⟩ e base _ _ _ _ w2 HO.o hb2.o bF.o Hs.o rfl he (Ol.o e he));rw [hr] at HC;clear hr;have p0:=X0.o.c4;have c0:=X1.o.c6;unfold dW;go_enter func168,ntmps168;go_wp2_with fail;refine HC.o.mono ?_;rintro en w3 ⟨hK3,v3,rfl,⟨x0,x1,x2,x3,rfl,⟨a0,n0,m0,rfl⟩,⟨a1,n1,m1,rfl⟩,⟨a2,n2,m2,rfl⟩,⟨a3,n3,m3,rfl⟩⟩,hko⟩;have tZ:=af hko;replace X2:=af (hK3.x _ _ _ aJ X2.o);replace Bw:=af (Bw.o.trans hK3);clear HC hK3 hko p0 c0 X0 X1 HO;have r0:=X2.o.c4;have jh:=X2.o.f4;go_wp2_with fail
  obtain ⟨e0,e1,e2,e3,hB4,hK4⟩:=fG X2.o rfl Bw.o (by have:=aC.o;omega) (A0 a0 n0 m0) (A0 a1 n1 m1) (A0 a2 n2 m2) (A0 a3 n3 m3);refine af7 (by simp [results,results168,go_sem,e0,e1,e2,e3]<;>rfl) ?_;rw [HF.o];exact qX ⟨⟨_,_,_,rfl⟩,⟨_,_,_,rfl⟩,⟨_,_,_,rfl⟩,⟨_,_,_,rfl⟩⟩ hB4 tZ.o (hK4 rfl)
 have n4:(bQ==4)=false:=by simpa using k4
 by_cases k5:bQ=5
 ·subst k5;obtain ⟨r,hr⟩:=XP (lu k ⟨5,e,ca,cb,cc,bg⟩);have HF:=af (show qm k ⟨5,e,ca,cb,cc,bg⟩=r from hr);have HC:=af (DX k ⟨5,e,ca,cb,cc,bg⟩ e base _ _ _ _ w2 HO.o hb2.o bF.o Hs.o rfl he (Ol.o e he));rw [hr] at HC;clear hr;have p0:=X0.o.c4;have c0:=X1.o.c6;unfold dW;go_enter func168,ntmps168;go_wp2_with fail;refine HC.o.mono ?_;rintro en w3 ⟨hK3,v3,rfl,⟨x0,x1,x2,x3,rfl,⟨a0,n0,m0,rfl⟩,⟨a1,n1,m1,rfl⟩,⟨a2,n2,m2,rfl⟩,⟨a3,n3,m3,rfl⟩⟩,hko⟩;have tZ:=af hko;replace X2:=af (hK3.x _ _ _ aJ X2.o);replace Bw:=af (Bw.o.trans hK3);clear HC hK3 hko p0 c0 X0 X1 HO;have r0:=X2.o.c4;have jh:=X2.o.f4;go_wp2_with fail
  obtain ⟨e0,e1,e2,e3,hB4,hK4⟩:=fG X2.o rfl Bw.o (by have:=aC.o;omega) (A0 a0 n0 m0) (A0 a1 n1 m1) (A0 a2 n2 m2) (A0 a3 n3 m3);refine af7 (by simp [results,results168,go_sem,e0,e1,e2,e3]<;>rfl) ?_;rw [HF.o];exact qX ⟨⟨_,_,_,rfl⟩,⟨_,_,_,rfl⟩,⟨_,_,_,rfl⟩,⟨_,_,_,rfl⟩⟩ hB4 tZ.o (hK4 rfl)
 have n5:(bQ==5)=false:=by simpa using k5
 by_cases k6:bQ=6
 ·subst k6;obtain ⟨r,hr⟩:=XP (Kx.lQ k ⟨6,e,ca,cb,cc,bg⟩);have HF:=af (show qm k ⟨6,e,ca,cb,cc,bg⟩=r from hr);have HC:=af (J7 k ⟨6,e,ca,cb,cc,bg⟩ e base _ _ _ _ w2 HO.o hb2.o bF.o Hs.o rfl he);rw [hr] at HC;clear hr;have p0:=X0.o.c4;have c0:=X1.o.c6;unfold dW;go_enter func168,ntmps168;go_wp2_with fail;refine HC.o.mono ?_;rintro en w3 ⟨hK3,v3,rfl,⟨x0,x1,x2,x3,rfl,⟨a0,n0,m0,rfl⟩,⟨a1,n1,m1,rfl⟩,⟨a2,n2,m2,rfl⟩,⟨a3,n3,m3,rfl⟩⟩,hko⟩;have tZ:=af hko;replace X2:=af (hK3.x _ _ _ aJ X2.o);replace Bw:=af (Bw.o.trans hK3);clear HC hK3 hko p0 c0 X0 X1 HO;have r0:=X2.o.c4;have jh:=X2.o.f4;go_wp2_with fail
  obtain ⟨e0,e1,e2,e3,hB4,hK4⟩:=fG X2.o rfl Bw.o (by have:=aC.o;omega) (A0 a0 n0 m0) (A0 a1 n1 m1) (A0 a2 n2 m2) (A0 a3 n3 m3);refine af7 (by simp [results,results168,go_sem,e0,e1,e2,e3]<;>rfl) ?_;rw [HF.o];exact qX ⟨⟨_,_,_,rfl⟩,⟨_,_,_,rfl⟩,⟨_,_,_,rfl⟩,⟨_,_,_,rfl⟩⟩ hB4 tZ.o (hK4 rfl)
 have n6:(bQ==6)=false:=by simpa using k6
 by_cases k7:bQ=7
 ·subst k7;obtain ⟨r,hr⟩:=XP (mM k ⟨7,e,ca,cb,cc,bg⟩);have HF:=af (show qm k ⟨7,e,ca,cb,cc,bg⟩=r from hr);have HC:=af (Hu k ⟨7,e,ca,cb,cc,bg⟩ e base _ _ _ _ w2 HO.o hb2.o bF.o Hs.o rfl he);rw [hr] at HC;clear hr;have p0:=X0.o.c4;have c0:=X1.o.c6;unfold dW;go_enter func168,ntmps168;go_wp2_with fail;refine HC.o.mono ?_;rintro en w3 ⟨hK3,v3,rfl,⟨x0,x1,x2,x3,rfl,⟨a0,n0,m0,rfl⟩,⟨a1,n1,m1,rfl⟩,⟨a2,n2,m2,rfl⟩,⟨a3,n3,m3,rfl⟩⟩,hko⟩;have tZ:=af hko;replace X2:=af (hK3.x _ _ _ aJ X2.o);replace Bw:=af (Bw.o.trans hK3);clear HC hK3 hko p0 c0 X0 X1 HO;have r0:=X2.o.c4;have jh:=X2.o.f4;go_wp2_with fail
  obtain ⟨e0,e1,e2,e3,hB4,hK4⟩:=fG X2.o rfl Bw.o (by have:=aC.o;omega) (A0 a0 n0 m0) (A0 a1 n1 m1) (A0 a2 n2 m2) (A0 a3 n3 m3);refine af7 (by simp [results,results168,go_sem,e0,e1,e2,e3]<;>rfl) ?_;rw [HF.o];exact qX ⟨⟨_,_,_,rfl⟩,⟨_,_,_,rfl⟩,⟨_,_,_,rfl⟩,⟨_,_,_,rfl⟩⟩ hB4 tZ.o (hK4 rfl)
 have n7:(bQ==7)=false:=by simpa using k7
 by_cases k8:bQ=8
 ·subst k8;obtain ⟨r,hr⟩:=XP (f_ k ⟨8,e,ca,cb,cc,bg⟩);have HF:=af (show qm k ⟨8,e,ca,cb,cc,bg⟩=r from hr);have HC:=af (wQ k ⟨8,e,ca,cb,cc,bg⟩ e base _ _ _ _ w2 HO.o hb2.o bF.o Hs.o rfl he Jr.o);rw [hr] at HC;clear hr;have p0:=X0.o.c4;have c0:=X1.o.c6;unfold dW;go_enter func168,ntmps168;go_wp2_with fail;refine HC.o.mono ?_;rintro en w3 ⟨hK3,v3,rfl,⟨x0,x1,x2,x3,rfl,⟨a0,n0,m0,rfl⟩,⟨a1,n1,m1,rfl⟩,⟨a2,n2,m2,rfl⟩,⟨a3,n3,m3,rfl⟩⟩,hko⟩;have tZ:=af hko;replace X2:=af (hK3.x _ _ _ aJ X2.o);replace Bw:=af (Bw.o.trans hK3);clear HC hK3 hko p0 c0 X0 X1 HO;have r0:=X2.o.c4;have jh:=X2.o.f4;go_wp2_with fail
  obtain ⟨e0,e1,e2,e3,hB4,hK4⟩:=fG X2.o rfl Bw.o (by have:=aC.o;omega) (A0 a0 n0 m0) (A0 a1 n1 m1) (A0 a2 n2 m2) (A0 a3 n3 m3);refine af7 (by simp [results,results168,go_sem,e0,e1,e2,e3]<;>rfl) ?_;rw [HF.o];exact qX ⟨⟨_,_,_,rfl⟩,⟨_,_,_,rfl⟩,⟨_,_,_,rfl⟩,⟨_,_,_,rfl⟩⟩ hB4 tZ.o (hK4 rfl)
 have n8:(bQ==8)=false:=by simpa using k8
 by_cases k9:bQ=9
 ·subst k9;obtain ⟨r,hr⟩:=XP (f_ k ⟨9,e,ca,cb,cc,bg⟩);have HF:=af (show qm k ⟨9,e,ca,cb,cc,bg⟩=r from hr);have HC:=af (wQ k ⟨9,e,ca,cb,cc,bg⟩ e base _ _ _ _ w2 HO.o hb2.o bF.o Hs.o rfl he Jr.o);rw [hr] at HC;clear hr;have p0:=X0.o.c4;have c0:=X1.o.c6;unfold dW;go_enter func168,ntmps168;go_wp2_with fail;refine HC.o.mono ?_;rintro en w3 ⟨hK3,v3,rfl,⟨x0,x1,x2,x3,rfl,⟨a0,n0,m0,rfl⟩,⟨a1,n1,m1,rfl⟩,⟨a2,n2,m2,rfl⟩,⟨a3,n3,m3,rfl⟩⟩,hko⟩;have tZ:=af hko;replace X2:=af (hK3.x _ _ _ aJ X2.o);replace Bw:=af (Bw.o.trans hK3);clear HC hK3 hko p0 c0 X0 X1 HO;have r0:=X2.o.c4;have jh:=X2.o.f4;go_wp2_with fail
  obtain ⟨e0,e1,e2,e3,hB4,hK4⟩:=fG X2.o rfl Bw.o (by have:=aC.o;omega) (A0 a0 n0 m0) (A0 a1 n1 m1) (A0 a2 n2 m2) (A0 a3 n3 m3);refine af7 (by simp [results,results168,go_sem,e0,e1,e2,e3]<;>rfl) ?_;rw [HF.o];exact qX ⟨⟨_,_,_,rfl⟩,⟨_,_,_,rfl⟩,⟨_,_,_,rfl⟩,⟨_,_,_,rfl⟩⟩ hB4 tZ.o (hK4 rfl)
 have n9:(bQ==9)=false:=by simpa using k9
 by_cases k10:bQ=10
 ·subst k10;obtain ⟨r,hr⟩:=XP (Kx.access k ⟨10,e,ca,cb,cc,bg⟩);have HF:=af (show qm k ⟨10,e,ca,cb,cc,bg⟩=r from hr);have HC:=af (w_ k ⟨10,e,ca,cb,cc,bg⟩ e base _ _ _ _ w2 HO.o hb2.o bF.o Hs.o rfl he);rw [hr] at HC;clear hr;have p0:=X0.o.c4;have c0:=X1.o.c6;unfold dW;go_enter func168,ntmps168;go_wp2_with fail;refine HC.o.mono ?_;rintro en w3 ⟨hK3,v3,rfl,⟨x0,x1,x2,x3,rfl,⟨a0,n0,m0,rfl⟩,⟨a1,n1,m1,rfl⟩,⟨a2,n2,m2,rfl⟩,⟨a3,n3,m3,rfl⟩⟩,hko⟩;have tZ:=af hko;replace X2:=af (hK3.x _ _ _ aJ X2.o);replace Bw:=af (Bw.o.trans hK3);clear HC hK3 hko p0 c0 X0 X1 HO;have r0:=X2.o.c4;have jh:=X2.o.f4;go_wp2_with fail
  obtain ⟨e0,e1,e2,e3,hB4,hK4⟩:=fG X2.o rfl Bw.o (by have:=aC.o;omega) (A0 a0 n0 m0) (A0 a1 n1 m1) (A0 a2 n2 m2) (A0 a3 n3 m3);refine af7 (by simp [results,results168,go_sem,e0,e1,e2,e3]<;>rfl) ?_;rw [HF.o];exact qX ⟨⟨_,_,_,rfl⟩,⟨_,_,_,rfl⟩,⟨_,_,_,rfl⟩,⟨_,_,_,rfl⟩⟩ hB4 tZ.o (hK4 rfl)
 have n10:(bQ==10)=false:=by simpa using k10
 by_cases k11:bQ=11
 ·subst k11;obtain ⟨r,hr⟩:=XP (Kx.access k ⟨11,e,ca,cb,cc,bg⟩);have HF:=af (show qm k ⟨11,e,ca,cb,cc,bg⟩=r from hr);have HC:=af (w_ k ⟨11,e,ca,cb,cc,bg⟩ e base _ _ _ _ w2 HO.o hb2.o bF.o Hs.o rfl he);rw [hr] at HC;clear hr;have p0:=X0.o.c4;have c0:=X1.o.c6;unfold dW;go_enter func168,ntmps168;go_wp2_with fail;refine HC.o.mono ?_;rintro en w3 ⟨hK3,v3,rfl,⟨x0,x1,x2,x3,rfl,⟨a0,n0,m0,rfl⟩,⟨a1,n1,m1,rfl⟩,⟨a2,n2,m2,rfl⟩,⟨a3,n3,m3,rfl⟩⟩,hko⟩;have tZ:=af hko;replace X2:=af (hK3.x _ _ _ aJ X2.o);replace Bw:=af (Bw.o.trans hK3);clear HC hK3 hko p0 c0 X0 X1 HO;have r0:=X2.o.c4;have jh:=X2.o.f4;go_wp2_with fail
  obtain ⟨e0,e1,e2,e3,hB4,hK4⟩:=fG X2.o rfl Bw.o (by have:=aC.o;omega) (A0 a0 n0 m0) (A0 a1 n1 m1) (A0 a2 n2 m2) (A0 a3 n3 m3);refine af7 (by simp [results,results168,go_sem,e0,e1,e2,e3]<;>rfl) ?_;rw [HF.o];exact qX ⟨⟨_,_,_,rfl⟩,⟨_,_,_,rfl⟩,⟨_,_,_,rfl⟩,⟨_,_,_,rfl⟩⟩ hB4 tZ.o (hK4 rfl)
 have n11:(bQ==11)=false:=by simpa using k11
 have HF:=af (show qm k ⟨bQ,e,ca,cb,cc,bg⟩=(k,0,3) by unfold qm;simp [k1,k2,k3,k4,k5,k6,k7,k8,k9,k10,k11]);clear k1 k2 k3 k4 k5 k6 k7 k8 k9 k10 k11;have p0:=X0.o.c4;have c0:=X1.o.c6;have r0:=X2.o.c4;have jh:=X2.o.f4;unfold dW;go_enter func168,ntmps168;go_wp2_with fail;exact afj HF.o X2.o Bw.o aC.o fun _ a b c d=>by simp [results,results168,go_sem,a,b,c,d]
theorem OM.dw {α:Type} {f:α->List Value} {l:List α} (h:OM w base hi u m) (ho:OS f sz e' w base' v l) (hg:w.grownBy w' v.ownBlock) (h1:29≠e') (h2:3≠e'):OM w' base hi u m:=by
 obtain ⟨ss,hl,⟨a1,a2⟩,hr,hs⟩:=h;exact ⟨ss,hl,⟨a1.kept hg (a1.apart ho h1),a2⟩,fun i h h'=>⟨((hr i h h').1.os.kept hg ((hr i h h').1.os.apart ho h2)).oi,(hr i h h').2⟩,hs⟩
theorem OE.dw {α:Type} {f:α->List Value} {m:List Kx.Env} {l:List α} (h:OE w base hi u m) (ho:OS f sz e' w base' v l) (hg:w.grownBy w' v.ownBlock) (h1:86≠e') (h2:9≠e'):OE w' base hi u m:=by
 obtain ⟨ss,hl,⟨a1,a2⟩,hr,hs⟩:=h;exact ⟨ss,hl,⟨a1.kept hg (a1.apart ho h1),a2⟩,fun i h h'=>⟨(hr i h h').1,(hr i h h').2.1.kept hg ((hr i h h').2.1.apart ho h2),(hr i h h').2.2⟩,hs⟩
theorem OS.dw {α β:Type} {f:α->List Value} {f':β->List Value} {sz':Nat} {e:TypeId} {l:List α} {l':List β} (h:OS f sz e w base u l) (ho:OS f' sz' e' w base' v l') (hg:w.grownBy w' v.ownBlock) (hne:e≠e'):OS f sz e w' base u l:=h.kept hg (h.apart ho hne)
theorem BX.dw {α:Type} {f:α->List Value} {t e:TypeId} {g:Nat} {cs:List Value} {l:List α} (h:BX w g t cs) (ho:OS f sz e w base v l) (hg:w.grownBy w' v.ownBlock) (hne:t≠e):BX w' g t cs:=by
 refine (hg.block g h.lt fun he=>?_).trans h;obtain ⟨c2,h2⟩:=ho.kind he.symm;exact absurd rfl (h.ne h2 hne)
theorem OM.d_ (hb:base<=w.heap.size):OM (w.alloc (.cells #[] 29)) base (w.heap.size+1) (A0 (some ⟨w.heap.size,0,none⟩) 0 0) []:=
 ⟨[],rfl,⟨OS.d_ hb,fun k hk=>by simp [Value.ownBlock] at hk;omega⟩,fun i h=>absurd h (A3 _),fun i j h=>absurd h (A3 _)⟩
theorem OE.d_ (hb:base<=w.heap.size):OE (w.alloc (.cells #[] 86)) base (w.heap.size+1) (A0 (some ⟨w.heap.size,0,none⟩) 0 0) []:=
 ⟨[],rfl,⟨OS.d_ hb,fun k hk=>by simp [Value.ownBlock] at hk;omega⟩,fun i h=>absurd h (A3 _),fun i j h=>absurd h (A3 _)⟩
theorem OM.push (h:OM w base hi u m) (Dt:base<=hi) (s:qj) (xs:List Int) (hn:OI w hi (dM s) xs) :
  ∃ ss:List qj,ss.length=m.length/\OS rO 1 29 w base u ss/\∀ w' u',OS rO 1 29 w' base u' (ss ++ [s])->w.grownBy w' u.ownBlock->OM w' base w'.heap.size u' (m ++ [xs]):=by
 obtain ⟨ss,hl,⟨a1,a2⟩,hr,hs⟩:=h;refine ⟨ss,hl,a1,fun w' u' ho hg=>⟨ss ++ [s],by simp [hl],⟨ho,ho.ub⟩,fun i h1 h2=>?_,fun i j h1 h2 hij=>?_⟩⟩
 ·by_cases hi1:i<ss.length
  ·obtain ⟨q1,q2,q3⟩:=hr i hi1 (by omega);have k1:OI w' base (dM ss[i]) (m[i]'(by omega)):=(q1.os.kept hg q3).oi;rw [List.getElem_append_left hi1,List.getElem_append_left (by omega)];exact ⟨k1,k1.os.ub,k1.os.apart ho (by decide)⟩
  have he:i=ss.length:=by simp at h1;omega
  subst he;have k1:OI w' hi (dM s) xs:=(hn.os.kept hg (qy hn.os a2)).oi;rw [List.getElem_append_right aW,List.getElem_append_right (by omega)];simp only [Nat.sub_self,A1,hl];exact ⟨k1.mono Dt,k1.os.ub,k1.os.apart ho (by decide)⟩
 by_cases hj1:j<ss.length
 ·rw [List.getElem_append_left hj1,List.getElem_append_left (by omega)];exact hs i j (by omega) hj1 hij
 have he:j=ss.length:=by simp at h2;omega
 subst he;rw [List.getElem_append_right aW,List.getElem_append_left hij];simp only [Nat.sub_self,A1];exact qy hn.os (hr i hij (by omega)).2.1
theorem OE.push {m:List Kx.Env} (h:OE w base hi u m) (Dt:base<=hi) (s:qj) (r:Int) (xs:List Kx.Str) (hn:OS df 1 9 w hi (dM s) xs) :
  ∃ ss:List (qj×Int),ss.length=m.length/\OS jG 2 86 w base u ss/\∀ w' u',OS jG 2 86 w' base u' (ss ++ [(s,r)])->w.grownBy w' u.ownBlock->OE w' base w'.heap.size u' (m ++ [⟨xs,r⟩]):=by
 obtain ⟨ss,hl,⟨a1,a2⟩,hr,hs⟩:=h;refine ⟨ss,hl,a1,fun w' u' ho hg=>⟨ss ++ [(s,r)],by simp [hl],⟨ho,ho.ub⟩,fun i h1 h2=>?_,fun i j h1 h2 hij=>?_⟩⟩
 ·by_cases hi1:i<ss.length
  ·obtain ⟨q0,q1,q2,q3⟩:=hr i hi1 (by omega);have k1:OS df 1 9 w' base (dM ss[i].1) (m[i]'(by omega)).aB:=q1.kept hg q3;rw [List.getElem_append_left hi1,List.getElem_append_left (by omega)];exact ⟨q0,k1,k1.ub,k1.apart ho (by decide)⟩
  have he:i=ss.length:=by simp at h1;omega
  subst he;have k1:OS df 1 9 w' hi (dM s) xs:=hn.kept hg (qy hn a2);rw [List.getElem_append_right aW,List.getElem_append_right (by omega)];simp only [Nat.sub_self,A1,hl];exact ⟨trivial,k1.mono Dt,k1.ub,k1.apart ho (by decide)⟩
 by_cases hj1:j<ss.length
 ·rw [List.getElem_append_left hj1,List.getElem_append_left (by omega)];exact hs i j (by omega) hj1 hij
 have he:j=ss.length:=by simp at h2;omega
 subst he;rw [List.getElem_append_right aW,List.getElem_append_left hij];simp only [Nat.sub_self,A1];exact qy hn (hr i hij (by omega)).2.2.1
theorem OM.go (h:OM w base w.heap.size u m) (hb:Below w.heap.size w w'):OM w' base w'.heap.size u m:=(h.below hb).mono aW hb.size
theorem yN (m:List (List Int)) (v:Value) (w:World) (h:RM w v m) (hl:m.length<=1048576):Calls prog 167 #[v] w fun e w'=>∃ u,e=.returned u/\OM w' w.heap.size w'.heap.size u m/\Below w.heap.size w w':=by
 obtain ⟨_,a,cap,rfl,_,_⟩:=h.len;have H:=af h;clear h;go_enter func167,ntmps167;go_wp2_with fail;go_loopw [3,4] (fun out i wr=>∃ k:Nat,i=I_ k/\k<=m.length/\TI (OM wr w.heap.size wr.heap.size out (m.take k))/\TI (Below w.heap.size w wr)) (fun _ i _=>m.length - (intOf i).toNat)
 case atStart=>exact ⟨0,rfl,Nat.zero_le _,(OM.d_ aW).mono aW (by simp),fZ.alloc aW _⟩
 case round =>
  obtain ⟨k,rfl,hk,ho,hb⟩:=hrel
  by_cases hlt:k<m.length
  ·have kQ:(k:Int)<(m.length:Int):=by omega
   obtain ⟨b,off,cap',u,ev,hbl,g0,m_⟩:=(H.o.below hb.o).at (k:=k) hlt;obtain ⟨rfl,_,rfl⟩:=Za ev;clear ev;have Dc:=af (show m.take (k+1)=m.take k ++ [Kx.row m k] by rw [List.take_succ_eq_append_getElem hlt];simp [Kx.row,hlt]);have hrl:=af m_.1;have QS:=af (m_.below (Below.lit fZ (.cells #[] 3)));obtain ⟨a9,c9,rfl⟩:=m_.val;generalize Kx.row m k=row at g0 QS Dc hrl;clear m_;have hxl:=af (show ([]:List Int).length+row.length<=1099511627776 by have:=hrl.o;simp;omega);go_wp2_with (first
    | (at_builtin
       refine nC rfl _ _ rfl wr.heap.size _ [] rfl (OI.d_ aW) _ row rfl QS.o hxl.o (by simp) ?_;intro v2 w2 ho2 hg2;have B2:Below wr.heap.size wr w2:=Below.app (dm) (OI.d_ aW) hg2 aW (by simp);rw [List.nil_append] at ho2;obtain ⟨a8,c8,rfl⟩:=ho2.ri.val;have hz2:=B2.size;have H2:=af (ho.o.below B2);have B3:Below w2.heap.size w2 (w2.alloc (.cells #[A0 a8 row.length c8] 29)):=dm;obtain ⟨ss,hsl,hos,hpush⟩:=(H2.o.below B3).push (hb.o.size) ⟨a8,row.length,c8⟩ row (ho2.below B3);have zL:=af hos;have Hp:=af hpush;have hyl:=af (show ss.length+1<=1099511627776 by have:=List.length_take_le k m;omega);have Bw:=af (hb.o.trans (B2.mono hb.o.size));have hz3:=af (show w.heap.size<=w2.heap.size by have:=hb.o.size;omega);clear hos hpush hsl hg2 QS hxl B2 B3 hz2 H2 ho2)
    | (at_builtin
       refine aV Kt rfl _ _ rfl w.heap.size _ ss rfl zL.o _ [(⟨a8,row.length,c8⟩:qj)] rfl (RS.one (f:=rO) ⟨a8,row.length,c8⟩ #[A0 a8 row.length c8] rfl w2 _) hyl.o (by simp;exact A4 hz3.o) ?_;intro v3 w4 iV hg4 _;have kH:=af iV;have rU:=af hg4;clear iV hg4))
   go_roundw
   case rel =>
    refine ⟨k+1,by go_num,by omega,?_,?_⟩
    ·show OM _ _ _ _ _;rw [Dc.o];exact Hp.o _ _ kH.o rU.o
    exact Below.dN (Bw.o.alloc Bw.o.size _) zL.o rU.o aW (by simp;exact A4 hz3.o)
   case measure=>simp [intOf];omega
  have hkn:k=m.length:=by omega
  have hf:=ho.o;rw [hkn,List.take_length] at hf;have HF:=af hf;clear hf hkn;go_wp2_with fail;go_ret;exact ⟨_,rfl,HF.o,hb.o⟩
end Go.Proofs.YthcmmoibpgcgaaaGreatDoor
