/- KJ14, KJ15, KJ16, joined. -/
import Derived.Test.YthcmmoibpgcgaaaGreatDoorKCd
import Derived.Test.YthcmmoibpgcgaaaGreatDoorKJc
set_option maxHeartbeats 4000000
set_option maxRecDepth 100000
set_option linter.all false
open List renaming replicate->A1,length_set->A2
open Nat renaming le_trans->A3,zero_add->A4
open Int renaming eq_ofNat_of_zero_le->A5
open Option.some renaming injEq->A6
open Go.Value renaming slice->A0
open Go.Proofs.Tryz
namespace Go.Proofs.YthcmmoibpgcgaaaGreatDoor
open Go.RowKit Kx
variable {base f:Nat}{um ui ue uc:Value}{k:Kx.Kernel}
theorem KO.aaB {w:World} (h:KO w base um ui ue uc k) {a:Nat} (hf:f<k.mem.length) (ha:a<(Kx.row k.mem f).length) {b g n cap m cap':Nat} (hum:um=A0 (some ⟨b,0,none⟩) m cap) (hc:w.cell? ⟨b,f,none⟩=some (A0 (some ⟨g,0,none⟩) n cap')) (x:Int) :
  KO (w.setCell ⟨g,a,none⟩ (I_ x)) base um ui ue uc { k with mem:=Kx.bG k.mem f a x }/\(w.setCell ⟨g,a,none⟩ (I_ x)).cell? ⟨b,f,none⟩=some (A0 (some ⟨g,0,none⟩) n cap'):=by
 obtain ⟨b2,cap2,g2,acB,h1,h2,h3,hbg,⟨cs,h4⟩,h5,h6,h7⟩:=h.bG hf ha;rw [hum] at h1;obtain ⟨⟨rfl,_⟩,_,_⟩:=Zb h1;clear h1;rw [hc] at h2;simp only [A6,Value.slice.injEq,Addr.mk.injEq] at h2;obtain ⟨⟨rfl,_⟩,_,_⟩:=h2;exact ⟨h7 x,(World.cell?_of_block (Below.heap_setCell w ⟨g,a,none⟩ _ b hbg)).trans hc⟩
theorem aas {m:List (List Int)} {a:Nat} {x:Int} (hf:f<m.length):(Kx.bG m f a x).length=m.length/\Kx.row (Kx.bG m f a x) f=(Kx.row m f).set a x:=by
 constructor
 ·simp [Kx.bG]
 simp [Kx.bG,Kx.row,hf]
theorem abX {m:List (List Int)} (hf:f<m.length) (h4:(Kx.row m f).length=4):Kx.bG (Kx.bG (Kx.bG (Kx.bG m f 0 0) f 1 0) f 2 0) f 3 0=m.set f [0,0,0,0]:=by
 obtain ⟨x0,x1,x2,x3,hr⟩:∃ x0 x1 x2 x3,Kx.row m f=[x0,x1,x2,x3]:=by
  match Kx.row m f,h4 with
  | [a,b,c,d],_=>exact ⟨a,b,c,d,rfl⟩
 have e:∀ (m:List (List Int)) (a:Nat) (x:Int),Kx.bG m f a x=m.set f ((Kx.row m f).set a x):=fun m a x=>rfl
 have r:∀ (m:List (List Int)) (ws:List Int),f<m.length->Kx.row (m.set f ws) f=ws:=fun m ws h=>by simp [Kx.row,h]
 have q:∀ (ws:List Int) (a:Nat) (x:Int),Kx.bG (m.set f ws) f a x=m.set f (ws.set a x):=fun ws a x=>by rw [e,r m ws hf,List.set_set]
 rw [e m 0 0,hr,q,q,q];rfl
theorem KO.acp {w:World} (h:KO w base um ui ue uc k) (hm:bW k.mem=true) (hf:f<12) :
  ∃ b cap g cap',um=A0 (some ⟨b,0,none⟩) k.mem.length cap/\b<w.heap.size/\w.cell? ⟨b,f,none⟩=some (A0 (some ⟨g,0,none⟩) 4 cap')/\base<=g/\(∃ cs,w.heap[g]?=some (.cells cs 3 (0,0)))/\(∀ j,j<4->(w.cell? ⟨g,0+j,none⟩).isSome=true/\w.frozen? ⟨g,0+j,none⟩=false) /\
   KO (w.setCells g 0 (A1 4 (I_ 0))) base um ui ue uc { k with mem:=k.mem.set f [0,0,0,0] }:=by
 obtain ⟨h12,h4,_⟩:=mem_row hm hf;have hfl:f<k.mem.length:=by omega
 obtain ⟨b,cap,g,cap',e1,e2,e3,hbg,hk,_,_,_⟩:=h.bG hfl (a:=0) (by omega);rw [h4] at e2;have hcell:∀ j,j<4->(w.cell? ⟨g,0+j,none⟩).isSome=true/\w.frozen? ⟨g,0+j,none⟩=false:=fun j hj=>by
  obtain ⟨b2,cap2,g2,acB,f1,f2,_,_,_,⟨z,f5⟩,f6,_⟩:=h.bG hfl (a:=j) (by omega);rw [e1] at f1;obtain ⟨⟨rfl,_⟩,_,_⟩:=Zb f1;clear f1;rw [e2] at f2;simp only [A6,Value.slice.injEq,Addr.mk.injEq] at f2;obtain ⟨⟨rfl,_⟩,_,_⟩:=f2;rw [A4,f5];exact ⟨rfl,f6⟩
 refine ⟨b,cap,g,cap',e1,World.block_lt_of_cell? w _ e2,e2,e3,hk,hcell,?_⟩;obtain ⟨k0,c0⟩:=h.aaB hfl (a:=0) (by omega) e1 e2 0;obtain ⟨l0,r0⟩:=aas (a:=0) (x:=0) hfl;obtain ⟨k1,c1⟩:=k0.aaB (f:=f) (a:=1) (by show f<(Kx.bG _ _ _ _).length;omega) (by show 1<(Kx.row (Kx.bG _ _ _ _) _).length;rw [r0,A2];omega) e1 c0 0;obtain ⟨l1,r1⟩:=aas (m:=Kx.bG k.mem f 0 0) (f:=f) (a:=1) (x:=0) (by omega);obtain ⟨k2,c2⟩:=k1.aaB (f:=f) (a:=2) (by show f<(Kx.bG (Kx.bG k.mem f 0 0) f 1 0).length;rw [l1,l0];exact hfl) (by show 2<(Kx.row (Kx.bG _ _ _ _) _).length;rw [r1,A2,r0,A2];omega) e1 c1 0;obtain ⟨l2,r2⟩:=aas (m:=Kx.bG (Kx.bG k.mem f 0 0) f 1 0) (f:=f) (a:=2) (x:=0) (by rw [l1,l0];exact hfl)
 obtain ⟨k3,_⟩:=k2.aaB (f:=f) (a:=3) (by show f<(Kx.bG (Kx.bG (Kx.bG k.mem f 0 0) f 1 0) f 2 0).length;rw [l2,l1,l0];exact hfl) (by show 3<(Kx.row (Kx.bG _ _ _ _) _).length;rw [r2,A2,r1,A2,r0,A2];omega) e1 c2 0;rw [<-abX hfl h4];exact k3
theorem acQ (k:Kx.Kernel) (c:Kx.Call) (e base G:Nat) (um ui ue uc:Value) (w:World) (hO:KO w base um ui ue uc k) (hG:BX w G 28 [um,ui,ue,uc]) (hbase:base<=w.heap.size) (Y0:base<=G) (hok:az k=true) (hs:iQ k) (hce:c.env=e) (he:e<3) (hnm:c.name.size<=9223372036854775807) :
  Calls prog 213 #[dO G c] w (acr base w G (Kx.take k c)):=by
 obtain ⟨bQ,JF,ca,cb,cc,bg⟩:=c;simp only at hce hnm;subst hce;obtain ⟨hmo,jI,h12,hco,h3,hro⟩:=aI hok;obtain ⟨w1,hw1,X1,XG,B1,s1⟩:=XF hG bQ e ca cb cc bg;have HO:=af (hO.below B1.o);have MI:=af (show base<=w.heap.size from hbase);have kG:=af hmo;have nM:=af jI;have fJ:=af h12;have H3:=af h3;have bF:=af hok;have Hs:=af hs;have HbG:=af Y0;have QY:=af hco;have mW:=af hro;have He:=af he;have Hnm:=af hnm;have S1:=af s1;have HR:=af (fun W=>oM bg W hnm);have HM:=af (fun (g:Kx.Str) (W:World) (um ui ue uc:Value) (hX:BX W G 28 [um,ui,ue,uc]) (hK:KO W base um ui ue uc k)=>zn k ⟨bQ,e,ca,cb,cc,bg⟩ e g G um ui ue uc W hX hK.rk.e rfl (by rw [h3];exact he))
 have HE:=af (fun (W:World) (um ui uc:Value) (b off cap:Nat) (hX:BX W G 28 [um,ui,A0 (some ⟨b,off,none⟩) k.ah.length cap,uc])=>wo k ⟨bQ,e,ca,cb,cc,bg⟩ e G b off cap um ui uc W hX rfl (by rw [h3];exact he))
 have p0:=XG.o.c4;have c0:=X1.o.c7;clear hO hG hmo jI h12 hco h3 hok hs Y0 hbase hro he hnm s1;unfold dO at HM HE ⊢;have HV:=af (show Kx.take k ⟨bQ,e,ca,cb,cc,bg⟩=(if !bT bg then (k,0,3) else if !jQ k e bg then (k,0,1) else match Kx.free k.ag with | none=>(k,0,4) | some f=>({ k with ag:=k.ag.set f ⟨1,bg,0⟩,mem:=k.mem.set f [0,0,0,0] },(f:Int),0):Kx.Out) from rfl)
 go_enter func213,ntmps213;go_wp2_with fail;refine (HR.o w1).mono ?_;rintro en w3 ⟨rfl,hb⟩;obtain ⟨X1,XG,HO,B1⟩:=aew hb X1 XG HO B1;clear p0 c0;have p0:=XG.o.c4;have c0:=X1.o.c7;clear hb
 cases hrk:bT bg with
 | false =>
  have HF:=af (show Kx.take k ⟨bQ,e,ca,cb,cc,bg⟩=(k,0,3) by rw [HV.o,hrk];rfl);clear hrk;go_wp2_with fail;go_ret2;exact abe HF.o (by decide) (B1.o.mono MI.o)
 | true =>
  go_wp2_with fail;refine (HM.o bg w3 _ _ _ _ XG.o HO.o).mono ?_;rintro en w4 ⟨rfl,hb⟩;obtain ⟨X1,XG,HO,B1⟩:=aew hb X1 XG HO B1;clear p0 c0;have p0:=XG.o.c4;have c0:=X1.o.c7;clear hb
  cases wR:jQ k (⟨bQ,e,ca,cb,cc,bg⟩:Kx.Call).env bg with
  | false =>
   have HF:=af (show Kx.take k ⟨bQ,e,ca,cb,cc,bg⟩=(k,0,1) by rw [HV.o,hrk];simp only at wR;rw [wR];rfl);clear hrk wR;go_wp2_with fail;go_ret2;exact abe HF.o (by decide) (B1.o.mono MI.o)
  | true =>
   have zG:=af (show Kx.take k ⟨bQ,e,ca,cb,cc,bg⟩=(match Kx.free k.ag with | none=>(k,0,4) | some f=>({ k with ag:=k.ag.set f ⟨1,bg,0⟩,mem:=k.mem.set f [0,0,0,0] },(f:Int),0):Kx.Out) by rw [HV.o,hrk];simp only at wR;rw [wR];rfl)
   have Om:=af hrk;clear HV hrk wR;obtain ⟨d,hd⟩:=XP w4.drew;have D:Below w4.heap.size w4 d:=hd ▸ Below.bz fZ;have Hd:=af hd;obtain ⟨X1,XG,HO,B1⟩:=aew D X1 XG HO B1;have K5:=af (show ∀ W,Below d.heap.size d W->((fun W:World=>W.cell? ⟨w.heap.size,0,none⟩=some (.pointer (some ⟨G,0,none⟩))/\W.cell? ⟨w.heap.size,6,none⟩=some (.string bg)/\W.cell? ⟨G,1,none⟩=some ui)) W from fun W hb=>⟨(X1.o.below hb).cell 0,(X1.o.below hb).cell 6,(XG.o.below hb).cell 1⟩)
   clear hd D
   cases hfr:Kx.free k.ag with
   | none =>
    have HT:=af (aaF k.ag bg ui d HO.o.rk.i Hs.o.1 nM.o Om.o Hnm.o hfr);have HF:=af (show Kx.take k ⟨bQ,e,ca,cb,cc,bg⟩=(k,0,4) by rw [zG.o,hfr]);clear hfr zG;go_wp2_with fail;clear p0 c0;refine afY (xs:=[]) K5 (by rw [Hd.o];exact fZ) fun hHeld=>?_
    rw [Hd.o];rw [Hd.o] at hHeld;refine tL 0 ?_;refine tL 1 ?_;refine tL 2 ?_;refine tL 3 ?_;refine tL 4 ?_;refine tL 5 ?_;refine tL 6 ?_;refine tL 7 ?_;refine aho 8 fun K hK=>?_;go_simp;go_at_call 262;refine HT.o.mono ?_;rintro en w7 ⟨rfl,hb7⟩;have ZH:=af hb7;clear hb7;refine afX hK (K5.o _ ZH.o) fun hHeld=>?_
    clear hK K;refine tL 9 ?_;refine tL 10 ?_;refine tL 11 ?_;refine tL 12 ?_;refine tL 13 ?_;refine tL 14 ?_;refine tL 15 ?_;refine gY (by kernel_rfl) ?_ _;obtain ⟨X1,XG,HO,B1⟩:=aew ZH.o X1 XG HO B1;clear hHeld K5 HT;go_wp2_with fail;go_ret2;exact abe HF.o (by decide) (B1.o.mono MI.o)
   | some f =>
    obtain ⟨hfl,_⟩:=zD hfr;have dG:f<12:=by have:=fJ.o;omega
    have HT:=af (aaS k.ag bg f ui d HO.o.rk.i Hs.o.1 nM.o Om.o Hnm.o hfr fJ.o);have HF:=af (show Kx.take k ⟨bQ,e,ca,cb,cc,bg⟩=({ k with ag:=k.ag.set f ⟨1,bg,0⟩,mem:=k.mem.set f [0,0,0,0] },(f:Int),0) by rw [zG.o,hfr]);have zW:=af dG;have HbD:=af (show base<=d.heap.size from A3 MI.o B1.o.size);clear hfr zG hfl;go_wp2_with fail;clear p0 c0;refine afY (xs:=[]) K5 (by rw [Hd.o];exact fZ) fun hHeld=>?_
    rw [Hd.o];rw [Hd.o] at hHeld;refine tL 0 ?_;refine tL 1 ?_;refine tL 2 ?_;refine tL 3 ?_;refine tL 4 ?_;refine tL 5 ?_;refine tL 6 ?_;refine tL 7 ?_;refine aho 8 fun K hK=>?_;go_simp;go_at_call 262;refine HT.o.mono ?_;rintro en w7 ⟨u7,rfl,Y1,hb7⟩;obtain ⟨a7,c7,e7,_,_⟩:=RS.val Y1.rs;rw [A2] at e7;subst e7;have Ho7:=af Y1;have ZH:=af hb7;clear Y1 hb7;refine afX hK (K5.o _ ZH.o) fun hHeld=>?_
    clear hK K;refine tL 9 ?_;refine tL 10 ?_;refine tL 11 ?_;refine tL 12 ?_;refine tL 13 ?_;refine tL 14 ?_;refine tL 15 ?_;refine gY (by kernel_rfl) ?_ _;obtain ⟨X1,XG,HO,B1⟩:=aew ZH.o X1 XG HO B1;clear hHeld K5 HT;obtain ⟨W8,Wy⟩:=XP (w7.setCell ⟨G,1,none⟩ (A0 a7 k.ag.length c7));have aa9:w.heap.size≠G:=X1.o.ne XG.o (by decide);have X1w:=af (show BX W8 w.heap.size 168 _ from Wy ▸ X1.o.other aa9 1 (A0 a7 k.ag.length c7));have XGw:=af (show BX W8 G 28 [um,A0 a7 k.ag.length c7,ue,uc] from Wy ▸ XG.o.set 1 (A0 a7 k.ag.length c7))
    have HOw:=af (show KO W8 base um (A0 a7 k.ag.length c7) ue uc ⟨k.mem,k.ag.set f ⟨1,bg,0⟩,k.ah,k.cache⟩ from Wy ▸ HO.o.acs XG.o aJ 1 (A0 a7 k.ag.length c7) (Ho7.o.mono HbD.o));have BBw:=af (show Below base w W8 from Wy ▸ (B1.o.mono MI.o).setCell (p:=⟨G,1,none⟩) HbG.o (A0 a7 k.ag.length c7));obtain ⟨bm,cm,g,cg,rfl,hbm,hrow,hbg,⟨cs,hgk⟩,hcell,hKz⟩:=HOw.o.acp kG.o zW.o;have hcl:=fun ty=>Lib.run_clear_slice (P:=prog) W8 29 3 ty (I_ 0) underlying29 Tryz.zeroValue3 rfl rfl g 0 4 cg (by decide) (fun j hj=>(hcell j hj).1) (fun j hj=>(hcell j hj).2)
    obtain ⟨W9,t_⟩:=XP (W8.setCells g 0 (A1 4 (I_ 0)));rw [t_] at hcl hKz;have adN:(f:Int)<(k.mem.length:Int):=by obtain ⟨uk,_⟩:=mem_row kG.o zW.o;omega
    have G9:W8.grownBy W9 (some g):=t_ ▸ grownBy_trans (grownBy_trans (grownBy_trans (aK W8 g 0 (I_ 0)) (aK _ g 1 (I_ 0))) (aK _ g 2 (I_ 0))) (aK _ g 3 (I_ 0));have XG9:=af (show BX W9 G 28 _ from (G9.block G XGw.o.lt (fun he=>XGw.o.ne hgk (by decide) (by simpa using he))).trans XGw.o)
    have BB9:=af (BBw.o.grown G9 (A3 MI.o (A3 B1.o.size (by rw [<-Wy];simp [World.setCell]))) (fun q hq=>by simp at hq;omega));have HK9:=af hKz;have p0:=XG.o.c4;have f1:=XG.o.frozen 1;have c0:=X1.o.c7;have v0:=XGw.o.c4;have y0:=X1w.o.c7;clear hKz hcell hgk G9 hbg t_;go_wp2_with fail;trace_state;go_ret2;exact acb HF.o BB9.o XG9.o HK9.o
theorem ac1 (k:Kx.Kernel) (c:Kx.Call) (e base G:Nat) (um ui ue uc:Value) (w:World) (hO:KO w base um ui ue uc k) (hG:BX w G 28 [um,ui,ue,uc]) (hbase:base<=w.heap.size) (Y0:base<=G) (hok:az k=true) (hs:iQ k) (hce:c.env=e) (he:e<3) (hnm:c.name.size<=9223372036854775807) (hk:c.kind=10\/c.kind=11) :
  Calls prog 219 #[dO G c] w (acr base w G (Kx.access k c)):=by
 obtain ⟨bQ,JF,ca,cb,cc,bg⟩:=c;simp only at hce hnm hk;subst hce;obtain ⟨hmo,jI,h12,hco,h3,hro⟩:=aI hok;obtain ⟨w1,hw1,X1,XG,B1,s1⟩:=XF hG bQ e ca cb cc bg;have HO:=af (hO.below B1.o);have MI:=af (show base<=w.heap.size from hbase);have kG:=af hmo;have nM:=af jI;have fJ:=af h12;have H3:=af h3;have bF:=af hok;have Hs:=af hs;have HbG:=af Y0;have QY:=af hco;have mW:=af hro;have He:=af he;have Hnm:=af hnm;have S1:=af s1;have HR:=af (fun W=>oM bg W hnm);have HM:=af (fun (g:Kx.Str) (W:World) (um ui ue uc:Value) (hX:BX W G 28 [um,ui,ue,uc]) (hK:KO W base um ui ue uc k)=>zn k ⟨bQ,e,ca,cb,cc,bg⟩ e g G um ui ue uc W hX hK.rk.e rfl (by rw [h3];exact he))
 have HE:=af (fun (W:World) (um ui uc:Value) (b off cap:Nat) (hX:BX W G 28 [um,ui,A0 (some ⟨b,off,none⟩) k.ah.length cap,uc])=>wo k ⟨bQ,e,ca,cb,cc,bg⟩ e G b off cap um ui uc W hX rfl (by rw [h3];exact he))
 obtain ⟨p0,p1,p2,p3⟩:=XG.o.c4;obtain ⟨c0,c1,c2,c3,c4,c5,c6⟩:=X1.o.c7;clear hO hG hmo jI h12 hco h3 hok hs Y0 hbase hro he hnm s1;unfold dO at HM HE ⊢;obtain ⟨bad,hbad⟩:∃ bad:Bool,(!Kx.bK ca 0 63||decide ((au k.ah e).root<0)||(bQ==11&&!Kx.bK cb 0 9999))=bad:=⟨_,rfl⟩;have HV:=af (show bad=true->Kx.access k ⟨bQ,e,ca,cb,cc,bg⟩=(k,0,3) from fun hb=>by unfold Kx.access;rw [<-hbad] at hb;exact if_pos hb)
 have HA:=af (IL (k:=k) (c:=⟨bQ,e,ca,cb,cc,bg⟩) bF.o);have hel:e<k.ah.length:=by rw [H3.o];exact He.o
 obtain ⟨b,off,cap,u,rfl,hbl,_,q1,_⟩:=HO.o.rk.e.at hel;have Jw:=af (mW.o e He.o);have Hq1:=af q1;have ND:=af hbl;clear hbl q1 hel;obtain ⟨st,hst⟩:∃ st,(bQ==11)=st:=⟨_,rfl⟩;rw [hst] at hbad;have uh:=af hst;have Hk:=af hk;clear hk;go_enter func219,ntmps219;go_wp2_with fail;refine (HE.o w1 _ _ _ b off cap XG.o).mono ?_;rintro en w2 ⟨rfl,hb⟩;have E2:=af hb;obtain ⟨X1,XG,HO,B1⟩:=aew hb X1 XG HO B1;clear p0 p1 p2 p3 c0 c1 c2 c3 c4 c5 c6;obtain ⟨p0,p1,p2,p3⟩:=XG.o.c4;obtain ⟨c0,c1,c2,c3,c4,c5,c6⟩:=X1.o.c7;clear hb;have q1:=(E2.o.cell (p:=⟨b,off+e*2+1,none⟩) ND.o).trans Hq1.o;obtain ⟨rt,hrt⟩:∃ rt,(au k.ah e).root=rt:=⟨_,rfl⟩;rw [hrt] at q1 hbad Jw;have MX:=af hrt;clear hrt hst Hq1;go_upto_region 3 with fail
 go_cut [38] from 11 (fun s38 wx=>s38=.bool bad/\wx=w2)
 case first =>
  cases hin:Kx.bK ca 0 63 with
  | false =>
   obtain rfl:bad=true:=by rw [<-hbad,hin];rfl
   go_wp2_with fail;refine (qI _ _).mono ?_;rintro en w3 ⟨rfl,rfl⟩;rw [hin];clear hbad hin;go_wp2_with fail;go_meet;exact ⟨rfl,rfl⟩
  | true =>
   by_cases h0:rt<0
   ·obtain rfl:bad=true:=by rw [<-hbad,hin];simp [h0]
    have UI:decide (rt<0)=true:=by simpa using h0
    go_wp2_with fail;refine (qI _ _).mono ?_;rintro en w3 ⟨rfl,rfl⟩;rw [hin];clear hbad hin;go_wp2_with fail;go_meet;exact ⟨rfl,rfl⟩
   have UI:decide (rt<0)=false:=by simpa using h0
   have hb2:(st&&!Kx.bK cb 0 9999)=bad:=by rw [<-hbad,hin,UI];rfl
   go_wp2_with fail;refine (qI _ _).mono ?_;rintro en w3 ⟨rfl,rfl⟩;rw [hin];clear hbad hin h0
   cases st with
   | false =>
    obtain rfl:bad=false:=by rw [<-hb2];rfl
    go_wp2_with fail;go_meet;exact ⟨rfl,rfl⟩
   | true =>
    go_wp2_with fail;refine (Rn _ _).mono ?_;rintro en w3 ⟨rfl,rfl⟩;rw [Bool.true_and] at hb2;subst hb2;go_wp2_with fail;go_meet;exact ⟨rfl,rfl⟩
 case rest =>
  obtain ⟨rfl,hwc⟩:=hcut;obtain rfl:w2=_:=hwc.symm
  cases bad with
  | true =>
   have HF:=af (HV.o rfl);clear hbad;go_wp2_with fail;go_ret2;exact abe HF.o (by decide) (B1.o.mono MI.o)
  | false =>
   simp only [Bool.or_eq_false_iff] at hbad;obtain ⟨⟨hb1,hb2⟩,hb3⟩:=hbad;have hin:Kx.bK ca 0 63=true:=by simpa using hb1
   obtain ⟨ha0,adr⟩:=Kx.ay.1 hin;obtain ⟨ad,rfl⟩:=A5 ha0;have had:ad<64:=by omega
   have hr0:0<=rt:=by have:=of_decide_eq_false hb2;omega
   obtain ⟨r,rfl⟩:=A5 hr0;have D_:r<12:=by have:=Jw.o;omega
   have HA2:=af (HA.o ad r rfl had MX.o (by show (bQ==11&&!Kx.bK cb 0 9999)=false;rw [uh.o];exact hb3));have hwk:=v_ (m:=k.mem) (r:=r) (ad:=ad);obtain ⟨⟨⟨pf,pa,pw⟩,pc⟩,hw⟩:∃ x,Kx.walk k.mem r ad=x:=⟨_,rfl⟩;rw [hw] at HA2 hwk;have HW:=af (fun (W:World) (h:RM W um k.mem)=>o_ k.mem r ad um W h kG.o D_ had)
   rw [hw] at HW;unfold kM at HW;have RH:=af hwk;have Had:=af had;have Hb3:=af hb3;simp only at HW HA2;clear HA HV hb1 hb2 hb3 hin ha0 adr hr0 D_ hw hwk had q1 E2;go_upto_region 5 with fail;go_cut [6,7] from 11 (fun s6 s7 wx=>∃ g7,s6=.pointer (some ⟨g7,0,none⟩)/\s7=I_ pc/\TI (Below w2.heap.size w2 wx)/\TI (w2.heap.size<=g7)/\TI (BX wx g7 105 [I_ pf,I_ pa,.bool pw]))
   case first =>
    obtain ⟨d,hd⟩:∃ d,w2.drew=d:=⟨_,rfl⟩;have D:Below w2.heap.size w2 d:=hd ▸ Below.bz fZ;have Hd:=af hd;have ED:=af D;obtain ⟨X1,XG,HO,B1⟩:=aew D X1 XG HO B1;have K5:=af (show ∀ W,Below d.heap.size d W->((fun W:World=>W.cell? ⟨w.heap.size,0,none⟩=some (.pointer (some ⟨G,0,none⟩))/\W.cell? ⟨w.heap.size,3,none⟩=some (I_ ad)/\W.cell? ⟨G,0,none⟩=some um)) W from fun W hb=>⟨(X1.o.below hb).cell 0,(X1.o.below hb).cell 3,(XG.o.below hb).cell 0⟩)
    clear hd D;go_wp2_with fail;clear p0 p1 p2 p3 c0 c1 c2 c3 c4 c5 c6;refine afY (xs:=[]) K5 (by rw [Hd.o];exact fZ) fun hHeld=>?_
    rw [Hd.o];rw [Hd.o] at hHeld;refine tL 0 ?_;refine tL 1 ?_;refine tL 2 ?_;refine tL 3 ?_;refine tL 4 ?_;refine tL 5 ?_;refine tL 6 ?_;refine tL 7 ?_;refine tL 8 ?_;refine MV 9 13 (by kernel_rfl) rfl rfl (fun K hK=>?_) (fun K hK=>?_)
    case' refine_1 =>
     rw [if_pos (by rfl)];go_simp;go_at_call 68;refine (HW.o d HO.o.rk.m).mono ?_;rintro en v1 ⟨rfl,hb1⟩;have Hb1:=af hb1;clear hb1;refine afX hK (K5.o _ Hb1.o) fun hHeld=>?_
     clear hK K;refine tL 10 ?_;refine tL 11 ?_;refine tL 12 ?_;obtain ⟨v9,hU⟩:∃ V,v1.alloc (.cells #[I_ 0,I_ 0,.bool false] 105)=V:=⟨_,rfl⟩;have XP:=af (show BX v9 v1.heap.size 105 [I_ 0,I_ 0,.bool false] from hU ▸ BX.new v1 _ _);have E9:=af (show Below d.heap.size d v9 from hU ▸ Below.lit Hb1.o _);obtain ⟨g7,Fh⟩:∃ g,v1.heap.size=g:=⟨_,rfl⟩;have Hg7:=af (show d.heap.size<=g7 from Fh ▸ Hb1.o.size);rw [Fh] at XP;refine aho 13 fun K hK=>?_;go_simp;refine afX hK (K5.o _ E9.o) fun hHeld=>?_
     clear hK K hU Fh Hb1
    case' refine_2 =>
     obtain ⟨v1,hU⟩:∃ V,d.alloc (.cells #[I_ 0,I_ 0,.bool false] 105)=V:=⟨_,rfl⟩;have XP:=af (show BX v1 d.heap.size 105 [I_ 0,I_ 0,.bool false] from hU ▸ BX.new d _ _);have E1:=af (show Below d.heap.size d v1 from hU ▸ dm);obtain ⟨g7,Fh⟩:∃ g,d.heap.size=g:=⟨_,rfl⟩;have Hg7:=af (show d.heap.size<=g7 from Nat.le_of_eq Fh);rw [Fh] at XP;rw [if_pos (by rfl)];go_simp;refine afX hK (K5.o _ E1.o) fun hHeld=>?_
     clear hK K hU Fh;refine aho 9 fun K hK=>?_;go_simp;go_at_call 68;refine (HW.o v1 (HO.o.below E1.o).rk.m).mono ?_;rintro en v9 ⟨rfl,hb9⟩;have E9:=af (E1.o.trans (hb9.mono E1.o.size));replace XP:=af (XP.o.below hb9);clear hb9 E1;refine afX hK (K5.o _ E9.o) fun hHeld=>?_
     clear hK K;refine tL 10 ?_;refine tL 11 ?_;refine tL 12 ?_
    all_goals
     obtain ⟨o0,o1,o2⟩:v9.cell? ⟨g7,0,none⟩=some (I_ 0)/\v9.cell? ⟨g7,1,none⟩=some (I_ 0)/\v9.cell? ⟨g7,2,none⟩=some (.bool false):=⟨XP.o.cell 0,XP.o.cell 1,XP.o.cell 2⟩;have f0:=XP.o.frozen 0;have f1:=XP.o.frozen 1;have f2:=XP.o.frozen 2;obtain ⟨V,hV⟩:∃ V,((v9.setCell ⟨g7,0,none⟩ (I_ pf)).setCell ⟨g7,1,none⟩ (I_ pa)).setCell ⟨g7,2,none⟩ (.bool pw)=V:=⟨_,rfl⟩;have EV:=af (show Below d.heap.size d V from hV ▸ ((E9.o.setCell (p:=⟨g7,0,none⟩) Hg7.o (I_ pf)).setCell (p:=⟨g7,1,none⟩) Hg7.o (I_ pa)).setCell (p:=⟨g7,2,none⟩) Hg7.o (.bool pw));replace XP:=af (show BX V g7 105 [I_ pf,I_ pa,.bool pw] from hV ▸ ((XP.o.set 0 _).set 1 _).set 2 _);refine aho 14 fun K hK=>?_;go_simp;refine afX hK (K5.o _ EV.o) fun hHeld=>?_
     clear hK K;refine tL 15 ?_;refine gY (by kernel_rfl) ?_ _;clear o0 o1 o2 f0 f1 f2 hV E9 K5 hHeld;go_wp2_with fail;go_meet;exact ⟨g7,rfl,rfl,ED.o.trans (EV.o.mono ED.o.size),A3 ED.o.size Hg7.o,XP.o⟩
   case rest =>
    obtain ⟨g7,rfl,rfl,EC,Hg7,XP⟩:=hcut;obtain ⟨X1,XG,HO,B1⟩:=aew EC.o X1 XG HO B1;clear p0 p1 p2 p3 c0 c1 c2 c3 c4 c5 c6;obtain ⟨p0,p1,p2,p3⟩:=XG.o.c4;obtain ⟨c0,c1,c2,c3,c4,c5,c6⟩:=X1.o.c7;have hcd:(pc != 0)=decide (pc≠0):=by cases h:(pc != 0) <;> simp_all
    by_cases hpc:pc=0
    ·subst hpc;obtain ⟨f,wr,dG,hwe⟩:=RH.o rfl;simp only [Prod.mk.injEq] at hwe;obtain ⟨⟨rfl,rfl,rfl⟩,_⟩:=hwe;obtain ⟨acc,hacc⟩:∃ acc,je k ⟨bQ,e,(ad:Int),cb,cc,bg⟩ (f:Int) pw=acc:=⟨_,rfl⟩;have HF:=af (show (st&&!pw)=false->Kx.access k ⟨bQ,e,(ad:Int),cb,cc,bg⟩=(⟨if st=true then Kx.bG k.mem f (ad % 4) cb else k.mem,k.ag,k.ah,acc⟩,if st=true then 0 else Kx.word k.mem f (ad % 4),0) from fun hd=>by
      rw [HA2.o,if_neg (by simp),<-hacc];have hs:=uh.o
      cases st with
      | true =>
       obtain rfl:bQ=11:=by simpa using hs
       cases pw with
       | true=>rw [if_neg (by simp),if_pos rfl,if_pos rfl,if_pos rfl];rfl
       | false=>cases hd
      | false =>
       have hne:bQ≠11:=by simpa using hs
       rw [if_neg (fun h=>hne h.1),if_neg hne,if_neg (by simp),if_neg (by simp)];rfl)
     have HD:=af (show (st&&!pw)=true->Kx.access k ⟨bQ,e,(ad:Int),cb,cc,bg⟩=(k,0,1) from fun hd=>by
      rw [HA2.o,if_neg (by simp)];have hs:=uh.o
      cases st with
      | true =>
       obtain rfl:bQ=11:=by simpa using hs
       cases pw with
       | true=>cases hd
       | false=>rw [if_pos ⟨rfl,rfl⟩]
      | false=>cases hd)
     have ac8:=af hacc;clear HA2 RH hacc hcd;obtain ⟨o0,o1,o2⟩:wc.cell? ⟨g7,0,none⟩=some (I_ f)/\wc.cell? ⟨g7,1,none⟩=some (I_ ((ad % 4:Nat):Int))/\wc.cell? ⟨g7,2,none⟩=some (.bool pw):=⟨XP.o.cell 0,XP.o.cell 1,XP.o.cell 2⟩;go_upto_region 8 with fail;go_cut [55] from 52 (fun s55 wx=>s55=.bool (st&&!pw)/\wx=wc)
     case first =>
      cases st with
      | true =>
       go_wp2_with fail;go_meet;exact ⟨rfl,rfl⟩
      | false =>
       go_wp2_with fail;go_meet;exact ⟨rfl,rfl⟩
     case rest =>
      obtain ⟨rfl,rfl⟩:=hcut
      cases hdn:(st&&!pw) with
      | true =>
       have HF2:=af (HD.o hdn);clear hdn;go_wp2_with fail;go_ret2;exact abe HF2.o (by decide) (B1.o.mono MI.o)
      | false =>
       replace HF:=af (HF.o hdn);have Hdn:=af hdn;clear HD hdn;obtain ⟨uk,hm4,_⟩:=mem_row kG.o dG;have Y3:ad % 4<4:=Nat.mod_lt _ (by decide);obtain ⟨bm,cm,g,cg,rfl,hrow,hword,_,⟨Jq,hgk⟩⟩:=HO.o.wordAt kG.o dG Y3;have wJ:(f:Int)<(k.mem.length:Int):=by omega
       have Oo:((ad % 4:Nat):Int)<4:=by omega
       obtain ⟨a,hae⟩:∃ a,ad % 4=a:=⟨_,rfl⟩;rw [hae] at o1 hword Oo HF XP Y3;have Hae:=af hae;have zW:=af dG;have Ha4:=af Y3;clear hae;go_wp2_with fail;go_quiet (fail);generalize hd:World.drewN wc _=d;have D:Below wc.heap.size wc d:=hd ▸ below_drewN _ _;have wd:=(D.cell (p:=⟨g,a,none⟩) (World.block_lt_of_cell? wc _ hword)).trans hword;replace XP:=af (XP.o.below D);obtain ⟨X1,XG,HO,B1⟩:=aew D X1 XG HO B1;clear p0 p1 p2 p3 c0 c1 c2 c3 c4 c5 c6;obtain ⟨p0,p1,p2,p3⟩:=XG.o.c4;obtain ⟨c0,c1,c2,c3,c4,c5,c6⟩:=X1.o.c7;have hrowd:=(D.cell (p:=⟨bm,f,none⟩) (World.block_lt_of_cell? wc _ hrow)).trans hrow;have HRw:=af hrowd;clear hd hrow hrowd hword hgk Jq o0 o1 o2 D;obtain ⟨v,hv⟩:∃ v,(if st=true then (0:Int) else Kx.word k.mem f a)=v:=⟨_,rfl⟩
       obtain ⟨m2,hm2⟩:∃ m2,(if st=true then Kx.bG k.mem f a cb else k.mem)=m2:=⟨_,rfl⟩;rw [hv,hm2] at HF;have Hv:=af hv;have Hm2:=af hm2;have Hm4:=af (show f<k.mem.length/\a<(Kx.row k.mem f).length from ⟨by omega,by omega⟩);have Hpk:=af hm4;have BB:=af (B1.o.mono MI.o);clear hv hm2 uk hm4 Y3;go_upto_if 77 with fail;go_cut [9] from 11 (fun s9 wx=>s9=I_ v/\TI (BX wx w.heap.size 168 [.pointer (some ⟨G,0,none⟩),I_ bQ,I_ e,I_ (ad:Int),I_ cb,I_ cc,.string bg])/\TI (BX wx G 28 [A0 (some ⟨bm,0,none⟩) k.mem.length cm,ui,A0 (some ⟨b,off,none⟩) k.ah.length cap,uc])/\TI (KO wx base (A0 (some ⟨bm,0,none⟩) k.mem.length cm) ui (A0 (some ⟨b,off,none⟩) k.ah.length cap) uc ⟨m2,k.ag,k.ah,k.cache⟩)/\TI (Below base w wx)/\TI (BX wx g7 105 [I_ f,I_ (a:Int),.bool pw]))
       case first =>
        cases st with
        | true =>
         obtain ⟨b2,cap2,g2,acB,e1,e2,hbg,hbq,⟨cs,hgk⟩,⟨z,hz⟩,hfz,hset⟩:=HO.o.bG (f:=f) (a:=a) Hm4.o.1 Hm4.o.2;obtain ⟨⟨rfl,_⟩,_,rfl⟩:=Zb e1;clear e1;rw [HRw.o] at e2;simp only [A6,Value.slice.injEq,Addr.mk.injEq] at e2;obtain ⟨⟨rfl,_⟩,hx1,hx2⟩:=e2;clear hz hx1 hx2;obtain ⟨W5,AU⟩:∃ W5,d.setCell ⟨g,a,none⟩ (I_ cb)=W5:=⟨_,rfl⟩;have X1w:=af (AU ▸ X1.o.other (X1.o.ne hgk (by decide)) a (I_ cb));have XGw:=af (AU ▸ XG.o.other (XG.o.ne hgk (by decide)) a (I_ cb));have XPw:=af (AU ▸ XP.o.other (XP.o.ne hgk (by decide)) a (I_ cb));have HOw:=af (show KO W5 base _ _ _ _ ⟨m2,k.ag,k.ah,k.cache⟩ by rw [<-Hm2.o,if_pos rfl,<-AU];exact hset cb);have BBw:=af (show Below base w W5 from AU ▸ BB.o.setCell (p:=⟨g,a,none⟩) hbg (I_ cb))
         have hv0:=af (show (0:Int)=v by rw [<-Hv.o,if_pos rfl]);clear hset hgk hbq hbg;go_wp2_with fail;go_meet;exact ⟨by rw [<-hv0.o],X1w.o,XGw.o,HOw.o,BBw.o,XPw.o⟩
        | false =>
         have hv0:Kx.word k.mem f a=v:=by rw [<-Hv.o,if_neg (by simp)]
         rw [hv0];have HO2:=af (show KO d base _ _ _ _ ⟨m2,k.ag,k.ah,k.cache⟩ by rw [<-Hm2.o,if_neg (by simp)];exact HO.o);clear hv0;go_wp2_with fail;go_meet;exact ⟨rfl,X1.o,XG.o,HO2.o,BB.o,XP.o⟩
       case rest =>
        obtain ⟨rfl,X1',XG',HO',BB',XP'⟩:=hcut;clear p0 p1 p2 p3 c0 c1 c2 c3 c4 c5 c6 X1 XG XP HO BB B1 wd HRw;obtain ⟨pg,EU⟩:∃ pg,ad / 4=pg:=⟨_,rfl⟩;have hq4:wrap64 ((ad:Int) / 4)=(pg:Int):=by rw [<-EU];have:=Had.o;unfold wrap64;omega
        have MW:=af EU;obtain ⟨c0,c1,c2,c3,c4,c5,c6⟩:=X1'.o.c7;clear EU;obtain ⟨d2,hd2⟩:∃ d2,wc.drew=d2:=⟨_,rfl⟩;have D2:Below wc.heap.size wc d2:=hd2 ▸ Below.bz fZ;have Hd2:=af hd2;have Zw:=af (show base<=wc.heap.size from A3 MI.o BB'.o.size);have X1:=af (X1'.o.below D2);have XG:=af (XG'.o.below D2);have XP:=af (XP'.o.below D2);have HO:=af (HO'.o.below D2);have BB:=af (BB'.o.trans (D2.mono Zw.o));have Z2:=af (A3 Zw.o D2.size);have K15:=af (show ∀ W,Below d2.heap.size d2 W->((fun W:World=>W.cell? ⟨w.heap.size,0,none⟩=some (.pointer (some ⟨G,0,none⟩))/\W.cell? ⟨w.heap.size,2,none⟩=some (I_ e)/\W.cell? ⟨G,3,none⟩=some uc)) W from fun W hb=>⟨(X1.o.below hb).cell 0,(X1.o.below hb).cell 2,(XG.o.below hb).cell 3⟩)
        have HC:=af (EQ k.cache e pg uc d2 HO.o.c.rs);clear hd2 D2 Zw;go_wp2_with fail;clear c0 c1 c2 c3 c4 c5 c6;refine afY (xs:=[]) K15 (by rw [Hd2.o];exact fZ) fun hHeld=>?_
        rw [Hd2.o];rw [Hd2.o] at hHeld;refine tL 0 ?_;refine tL 1 ?_;refine tL 2 ?_;refine tL 3 ?_;refine tL 4 ?_;refine tL 5 ?_;refine tL 6 ?_;refine tL 7 ?_;refine tL 8 ?_;refine aho 9 fun K hK=>?_;go_simp;go_at_call 139;refine HC.o.mono ?_;rintro en w7 ⟨rfl,hb7⟩;have ZH:=af hb7;clear hb7;refine afX hK (K15.o _ ZH.o) fun hHeld=>?_
        clear hK K;refine tL 10 ?_;refine gY (by kernel_rfl) ?_ _;clear hHeld K15 HC hq4;replace X1:=af (X1.o.below ZH.o);replace XG:=af (XG.o.below ZH.o);replace XP:=af (XP.o.below ZH.o);replace HO:=af (HO.o.below ZH.o);replace BB:=af (BB.o.trans (ZH.o.mono Z2.o));replace Z2:=af (A3 Z2.o ZH.o.size);clear X1' XG' HO' BB' XP' Hd2;have Vd:=af (show acc=match iW k.cache e pg with | some _=>k.cache | none=>qp k.cache ⟨e,pg,f,pw⟩ by
         rw [<-ac8.o,<-MW.o];rfl)
        clear ZH ac8
        cases hcf:iW k.cache e pg with
        | some i =>
         have KX:xM k.cache e pg=i:=by unfold xM;rw [hcf]
         have Xo:=af (show acc=k.cache by rw [Vd.o,hcf]);rw [KX];clear hcf Vd KX;go_wp2_with fail;go_ret2;exact acb HF.o BB.o XG.o (by rw [Xo.o];exact HO.o)
        | none =>
         have KX:xM k.cache e pg=-1:=by unfold xM;rw [hcf]
         have Xo:=af (show qp k.cache ⟨e,pg,f,pw⟩=acc by rw [Vd.o,hcf]);rw [KX];clear hcf Vd KX;obtain ⟨d3,hd3⟩:∃ d3,w7.drew=d3:=⟨_,rfl⟩;have D3:Below w7.heap.size w7 d3:=hd3 ▸ Below.bz fZ;have Hd3:=af hd3;replace X1:=af (X1.o.below D3);replace XG:=af (XG.o.below D3);replace XP:=af (XP.o.below D3);replace HO:=af (HO.o.below D3);replace BB:=af (BB.o.trans (D3.mono Z2.o));replace Z2:=af (A3 Z2.o D3.size);have K16:=af (show ∀ W,Below d3.heap.size d3 W->((fun W:World=>W.cell? ⟨w.heap.size,0,none⟩=some (.pointer (some ⟨G,0,none⟩))/\W.cell? ⟨w.heap.size,2,none⟩=some (I_ e)/\W.cell? ⟨G,3,none⟩=some uc/\W.cell? ⟨g7,0,none⟩=some (I_ f)/\W.cell? ⟨g7,2,none⟩=some (.bool pw))) W from fun W hb=>⟨(X1.o.below hb).cell 0,(X1.o.below hb).cell 2,(XG.o.below hb).cell 3,(XP.o.below hb).cell 0,(XP.o.below hb).cell 2⟩)
         have HP:=af (Gq k.cache ⟨e,pg,f,pw⟩ uc d3 HO.o.c.rs QY.o (by
          have h1:=He.o;have h2:=MW.o;have h3:=Had.o;have h4:=zW.o;unfold dn Kx.bK;simp only [Bool.and_eq_true,decide_eq_true_eq];omega) (jq.1 QY.o).2.2)
         rw [Xo.o] at HP;clear hd3 D3;go_wp2_with fail;refine afY (xs:=[22]) K16 (by rw [Hd3.o];exact fZ) fun hHeld=>?_
         rw [Hd3.o];rw [Hd3.o] at hHeld;refine tL 0 ?_;refine tL 1 ?_;refine tL 2 ?_;refine tL 3 ?_;refine tL 4 ?_;refine tL 5 ?_;refine tL 6 ?_;refine tL 7 ?_;refine tL 8 ?_;refine tL 9 ?_;refine tL 10 ?_;refine tL 11 ?_;refine tL 12 ?_;refine tL 13 ?_;refine tL 14 ?_;refine tL 15 ?_;refine aho 16 fun K hK=>?_;go_simp;go_at_call 272;refine HP.o.mono ?_;rintro en w8 ⟨u8,rfl,xE,hb8⟩;obtain ⟨a8,c8,rfl,_,_⟩:=RS.val xE.rs;have Ot:=af xE;have Hb8:=af hb8;clear xE hb8;refine afX hK (K16.o _ Hb8.o) fun hHeld=>?_
         clear hK K;refine tP 17 ?_;refine tP 18 ?_;refine tP 19 ?_;refine tP 20 ?_;refine tP 21 ?_;have XG8:=af (XG.o.below Hb8.o);have p3:=XG8.o.cell 3;have f3:=XG8.o.frozen 3;refine ahp 22 fun K hK=>?_;go_simp;refine hK.out _ _ ?_;clear hK K;refine nL ?_;refine gY (by kernel_rfl) ?_ _;have XGf:=af (XG8.o.set 3 (A0 a8 acc.length c8));have HOf:=af ((HO.o.below Hb8.o).ac_ XG8.o aJ 3 (A0 a8 acc.length c8) (Ot.o.mono Z2.o));have BBf:=af ((BB.o.trans (Hb8.o.mono Z2.o)).setCell (p:=⟨G,3,none⟩) HbG.o (A0 a8 acc.length c8));clear p3 f3 K16 hHeld;go_wp2_with fail;go_ret2;exact acb HF.o BBf.o XGf.o HOf.o
    have hpb:(pc != 0)=true:=by simpa using hpc
    have HF:=af (show Kx.access k ⟨bQ,e,(ad:Int),cb,cc,bg⟩=(k,0,3) by rw [HA2.o,if_pos hpc]);clear hcd hpc;go_wp2_with fail;go_ret2;exact abe HF.o (by decide) (B1.o.mono MI.o)
theorem aaC {c:Kx.Call} (kd:Int) (hca:c.a=f) (hf:f<12) (hk0:(Kx.inf k.ag f).kind≠0) (wR:jQ k c.env (Kx.inf k.ag f).guard=true) :
  aO k c kd=if 0<kd/\(Kx.inf k.ag f).kind≠kd\/kd=0/\aX (Kx.inf k.ag f).kind=false then 3 else 0:=by
 unfold aO;have hin:Kx.bK c.a 0 11=true:=by rw [Kx.ay,hca];omega
 have hb:((Kx.inf k.ag f).kind==0)=false:=by simpa using hk0
 rw [hin,hca,show ((f:Int)).toNat=f from rfl,wR,hb];rfl
theorem acT (k:Kx.Kernel) (c:Kx.Call) (e base G:Nat) (um ui ue uc:Value) (w:World) (hO:KO w base um ui ue uc k) (hG:BX w G 28 [um,ui,ue,uc]) (hbase:base<=w.heap.size) (Y0:base<=G) (hok:az k=true) (hs:iQ k) (hce:c.env=e) (he:e<3) (hnm:c.name.size<=9223372036854775807) (f:Nat) (hf:f<12) (hca:c.a=f) (hk0:(Kx.inf k.ag f).kind≠0) (wR:jQ k e (Kx.inf k.ag f).guard=true) (hkd:c.kind=2) :
  Calls prog 215 #[dO G c] w (aa_ base w G (Kx.give k c)):=by
 obtain ⟨bQ,JF,ca,cb,cc,bg⟩:=c;simp only at hce hnm hca hkd;subst hce;obtain ⟨hmo,jI,h12,hco,h3,hro⟩:=aI hok;obtain ⟨w1,hw1,X1,XG,B1,s1⟩:=XF hG bQ e ca cb cc bg;have HO:=af (hO.below B1.o);have MI:=af (show base<=w.heap.size from hbase);have kG:=af hmo;have nM:=af jI;have fJ:=af h12;have H3:=af h3;have bF:=af hok;have Hs:=af hs;have HbG:=af Y0;have QY:=af hco;have mW:=af hro;have He:=af he;have Hnm:=af hnm;have S1:=af s1;have HR:=af (fun W=>oM bg W hnm);have HM:=af (fun (g:Kx.Str) (W:World) (um ui ue uc:Value) (hX:BX W G 28 [um,ui,ue,uc]) (hK:KO W base um ui ue uc k)=>zn k ⟨bQ,e,ca,cb,cc,bg⟩ e g G um ui ue uc W hX hK.rk.e rfl (by rw [h3];exact he))
 have HE:=af (fun (W:World) (um ui uc:Value) (b off cap:Nat) (hX:BX W G 28 [um,ui,A0 (some ⟨b,off,none⟩) k.ah.length cap,uc])=>wo k ⟨bQ,e,ca,cb,cc,bg⟩ e G b off cap um ui uc W hX rfl (by rw [h3];exact he))
 have p0:=XG.o.c4;have c0:=X1.o.c7;clear hO hG hmo jI h12 hco h3 hok hs Y0 hbase hro he hnm s1;unfold dO at HM HE ⊢;subst hca hkd;have hfl:f<k.ag.length:=by rw [fJ.o];exact hf
 have wJ:(f:Int)<(k.ag.length:Int):=by omega
 obtain ⟨gi,ci,rfl,aaT,aa2⟩:=HO.o.i.shape (by rw [fJ.o];decide);obtain ⟨_,_,_,ev,_,d0,_,_⟩:=bV.at HO.o.rk.i hfl;obtain ⟨⟨rfl,rfl,_⟩,_,rfl⟩:=Zb ev;clear ev;rw [A4] at d0;have Hf:=af hf;have HV:=af (show Kx.give k ⟨2,e,(f:Int),cb,cc,bg⟩=if aO k ⟨2,e,(f:Int),cb,cc,bg⟩ 1≠0 then (k,0,aO k ⟨2,e,(f:Int),cb,cc,bg⟩ 1) else if (Kx.inf k.ag f).refs > 0 then (k,0,2) else ({ k with ag:=k.ag.set f aG.zero },0,0) from rfl);have HFC:=af (aaC (c:=⟨2,e,(f:Int),cb,cc,bg⟩) 1 rfl hf hk0 wR);have YZ:=af (aaq nM.o hfl);have HG0:=af (fun h1 h2=>aaH k.ag f _ w1 HO.o.rk.i Hs.o.1 nM.o hf fJ.o h1 h2);have HG1:=af (fun h1 h2=>aaU k.ag f _ w1 HO.o.rk.i Hs.o.1 nM.o hf fJ.o h1 h2)
 have HbD:=af (show base<=w1.heap.size from A3 MI.o B1.o.size);clear hfl wR hk0 aaT aa2 hf
 by_cases h1:(Kx.inf k.ag f).kind=1
 ·rw [h1] at d0;replace HFC:=af (show aO k ⟨2,e,(f:Int),cb,cc,bg⟩ 1=0 by rw [HFC.o,h1];rfl);have H1:=af h1;clear h1
  by_cases h2:(Kx.inf k.ag f).refs=0
  ·replace HG1:=af (HG1.o H1.o h2);have HF:=af (show Kx.give k ⟨2,e,(f:Int),cb,cc,bg⟩=(⟨k.mem,k.ag.set f aG.zero,k.ah,k.cache⟩,0,0) by rw [HV.o,HFC.o,if_neg (by decide),if_neg (by omega)]);clear h2 HG0;go_enter func215,ntmps215;go_wp2_with fail;refine HG1.o.mono ?_;rintro en w7 ⟨u7,rfl,Y1,hb7⟩;obtain ⟨a7,c7,e7,_,_⟩:=RS.val Y1.rs;rw [A2] at e7;subst e7;have Ho7:=af Y1;clear Y1;obtain ⟨X1,XG,HO,B1⟩:=aew hb7 X1 XG HO B1;clear p0 c0;have p0:=XG.o.c4;have c0:=X1.o.c7;clear hb7 d0 HG1;obtain ⟨W8,Wy⟩:=XP (w7.setCell ⟨G,1,none⟩ (A0 a7 k.ag.length c7));have aa9:w.heap.size≠G:=X1.o.ne XG.o (by decide)
   have X1w:=af (show BX W8 w.heap.size 168 _ from Wy ▸ X1.o.other aa9 1 (A0 a7 k.ag.length c7));have XGw:=af (show BX W8 G 28 [um,A0 a7 k.ag.length c7,ue,uc] from Wy ▸ XG.o.set 1 (A0 a7 k.ag.length c7));have HOw:=af (show KO W8 base um (A0 a7 k.ag.length c7) (ue) uc ⟨k.mem,k.ag.set f aG.zero,k.ah,k.cache⟩ from Wy ▸ HO.o.acs XG.o aJ 1 (A0 a7 k.ag.length c7) (Ho7.o.mono HbD.o));have BBw:=af (show Below base w W8 from Wy ▸ (B1.o.mono MI.o).setCell (p:=⟨G,1,none⟩) HbG.o (A0 a7 k.ag.length c7));have f1:=XG.o.frozen 1;clear aa9;go_wp2_with fail;go_ret;exact ab1 HF.o BBw.o XGw.o HOw.o
  replace HG0:=af (HG0.o H1.o h2);have HF:=af (show Kx.give k ⟨2,e,(f:Int),cb,cc,bg⟩=(k,0,2) by rw [HV.o,HFC.o,if_neg (by decide),if_pos (by have:=YZ.o;omega)]);clear h2 HG1;go_enter func215,ntmps215;go_wp2_with fail;refine HG0.o.mono ?_;rintro en w7 ⟨rfl,hb7⟩;obtain ⟨X1,XG,HO,B1⟩:=aew hb7 X1 XG HO B1;clear p0 c0;have p0:=XG.o.c4;have c0:=X1.o.c7;clear hb7 d0 HG0;go_wp2_with fail;go_ret;exact aar HF.o (by decide) (B1.o.mono MI.o)
 have HF:=af (show Kx.give k ⟨2,e,(f:Int),cb,cc,bg⟩=(k,0,3) by rw [HV.o,show aO k ⟨2,e,(f:Int),cb,cc,bg⟩ 1=3 from HFC.o.trans (if_pos (.inl ⟨by decide,h1⟩))];rfl);have h1b:((Kx.inf k.ag f).kind==1)=false:=by simpa using h1
 clear HFC HV HG0 HG1 YZ h1;go_enter func215,ntmps215;go_wp2_with fail;go_ret;exact aar HF.o (by decide) (B1.o.mono MI.o)
theorem acU (k:Kx.Kernel) (c:Kx.Call) (e base G:Nat) (um ui ue uc:Value) (w:World) (hO:KO w base um ui ue uc k) (hG:BX w G 28 [um,ui,ue,uc]) (hbase:base<=w.heap.size) (Y0:base<=G) (hok:az k=true) (hs:iQ k) (hce:c.env=e) (he:e<3) (hnm:c.name.size<=9223372036854775807) (f:Nat) (hf:f<12) (hca:c.a=f) (hk0:(Kx.inf k.ag f).kind≠0) (wR:jQ k e (Kx.inf k.ag f).guard=true) (hkd:c.kind=3) :
  Calls prog 215 #[dO G c] w (aa_ base w G (oP k c)):=by
 obtain ⟨bQ,JF,ca,cb,cc,bg⟩:=c;simp only at hce hnm hca hkd;subst hce;obtain ⟨hmo,jI,h12,hco,h3,hro⟩:=aI hok;obtain ⟨w1,hw1,X1,XG,B1,s1⟩:=XF hG bQ e ca cb cc bg;have HO:=af (hO.below B1.o);have MI:=af (show base<=w.heap.size from hbase);have kG:=af hmo;have nM:=af jI;have fJ:=af h12;have H3:=af h3;have bF:=af hok;have Hs:=af hs;have HbG:=af Y0;have QY:=af hco;have mW:=af hro;have He:=af he;have Hnm:=af hnm;have S1:=af s1;have HR:=af (fun W=>oM bg W hnm);have HM:=af (fun (g:Kx.Str) (W:World) (um ui ue uc:Value) (hX:BX W G 28 [um,ui,ue,uc]) (hK:KO W base um ui ue uc k)=>zn k ⟨bQ,e,ca,cb,cc,bg⟩ e g G um ui ue uc W hX hK.rk.e rfl (by rw [h3];exact he))
 have HE:=af (fun (W:World) (um ui uc:Value) (b off cap:Nat) (hX:BX W G 28 [um,ui,A0 (some ⟨b,off,none⟩) k.ah.length cap,uc])=>wo k ⟨bQ,e,ca,cb,cc,bg⟩ e G b off cap um ui uc W hX rfl (by rw [h3];exact he))
 have p0:=XG.o.c4;have c0:=X1.o.c7;clear hO hG hmo jI h12 hco h3 hok hs Y0 hbase hro he hnm s1;unfold dO at HM HE ⊢;subst hca hkd;have hfl:f<k.ag.length:=by rw [fJ.o];exact hf
 have wJ:(f:Int)<(k.ag.length:Int):=by omega
 obtain ⟨gi,ci,rfl,aaT,aa2⟩:=HO.o.i.shape (by rw [fJ.o];decide);obtain ⟨_,_,_,ev,_,d0,_,_⟩:=bV.at HO.o.rk.i hfl;obtain ⟨⟨rfl,rfl,_⟩,_,rfl⟩:=Zb ev;clear ev;rw [A4] at d0;have Hf:=af hf;have HV:=af (show oP k ⟨3,e,(f:Int),cb,cc,bg⟩=if aO k ⟨3,e,(f:Int),cb,cc,bg⟩ 1≠0 then (k,0,aO k ⟨3,e,(f:Int),cb,cc,bg⟩ 1) else if !Kx.bK cb 0 3||!Kx.bK cc 0 9999 then (k,0,3) else ({ k with mem:=Kx.bG k.mem f cb.toNat cc },0,0) from rfl);have HFC:=af (aaC (c:=⟨3,e,(f:Int),cb,cc,bg⟩) 1 rfl hf hk0 wR);clear hfl wR hk0 aaT aa2 hf;go_enter func215,ntmps215
 by_cases h1:(Kx.inf k.ag f).kind=1
 ·rw [h1] at d0;replace HFC:=af (show aO k ⟨3,e,(f:Int),cb,cc,bg⟩ 1=0 by rw [HFC.o,h1];rfl);clear h1;go_wp2_with fail;refine (FH _ _).mono ?_;rintro en w2 ⟨rfl,rfl⟩
  cases hin:Kx.bK cb 0 3 with
  | false =>
   have HF:=af (show oP k ⟨3,e,(f:Int),cb,cc,bg⟩=(k,0,3) by rw [HV.o,HFC.o,if_neg (by decide),hin];rfl);clear hin;go_wp2_with fail;go_ret;exact aar HF.o (by decide) (B1.o.mono MI.o)
  | true =>
   go_wp2_with fail;refine (Rn _ _).mono ?_;rintro en w2 ⟨rfl,rfl⟩
   cases hin2:Kx.bK cc 0 9999 with
   | false =>
    have HF:=af (show oP k ⟨3,e,(f:Int),cb,cc,bg⟩=(k,0,3) by rw [HV.o,HFC.o,if_neg (by decide),hin2,hin];rfl);clear hin hin2;go_wp2_with fail;go_ret;exact aar HF.o (by decide) (B1.o.mono MI.o)
   | true =>
    obtain ⟨ha0,PX⟩:=Kx.ay.1 hin;obtain ⟨a,rfl⟩:=A5 ha0;have HF:=af (show oP k ⟨3,e,(f:Int),(a:Int),cc,bg⟩=(⟨Kx.bG k.mem f a cc,k.ag,k.ah,k.cache⟩,0,0) by rw [HV.o,HFC.o,if_neg (by decide),hin2,hin];rfl);have Oo:(a:Int)<4:=by omega
    obtain ⟨uk,hm4,_⟩:=mem_row kG.o Hf.o;have hfm:(f:Int)<(k.mem.length:Int):=by have:=Hf.o;omega
    obtain ⟨d,hd⟩:=XP w1.drew;have Hd:=af hd;have D:=af (show Below w1.heap.size w1 d from hd ▸ Below.bz fZ);clear p0 c0;obtain ⟨X1,XG,HO,B1⟩:=aew D.o X1 XG HO B1;obtain ⟨bm,cm,g,cg,rfl,hrow,hbg,hbq,⟨cs,hgk⟩,⟨z,hz⟩,hfz,hset⟩:=HO.o.bG (f:=f) (a:=a) (by have:=Hf.o;omega) (by omega);rw [hm4] at hrow;have zO:=af (hset cc);have vW:=af hrow;have XGf:=af (XG.o.other (XG.o.ne hgk (by decide)) a (I_ cc));have BBf:=af ((B1.o.mono MI.o).setCell (p:=⟨g,a,none⟩) hbg (I_ cc));clear hgk hset hrow hbg hbq uk hm4 ha0 PX hin hin2 HV HFC hd d0;go_wp2_with fail
    refine uu (S:=(fun W:World=>W.cell? ⟨w.heap.size,0,none⟩=some (.pointer (some ⟨G,0,none⟩))/\W.cell? ⟨w.heap.size,4,none⟩=some (I_ (a:Int))/\W.cell? ⟨w.heap.size,5,none⟩=some (I_ cc)/\W.cell? ⟨G,0,none⟩=some (A0 (some ⟨bm,0,none⟩) k.mem.length cm)/\W.cell? ⟨bm,f,none⟩=some (A0 (some ⟨g,0,none⟩) 4 cg))) (xs:=[15]) (by kernel_rfl) (by rw [Hd.o];exact ⟨X1.o.cell 0,X1.o.cell 4,X1.o.cell 5,XG.o.cell 0,vW.o⟩) (fun hHeld=>?_)
    rw [Hd.o];rw [Hd.o] at hHeld;refine tL 0 ?_;refine tL 1 ?_;refine tL 2 ?_;refine tL 3 ?_;refine tL 4 ?_;refine tL 5 ?_;refine tL 6 ?_;refine tL 7 ?_;refine tL 8 ?_;refine tL 9 ?_;refine tL 10 ?_;refine tL 11 ?_;refine tL 12 ?_;refine tL 13 ?_;refine tL 14 ?_;refine ahp 15 fun K hK=>?_;go_simp;refine hK.out _ _ ?_;clear hK K;refine nL ?_;refine gY (by kernel_rfl) ?_ _;clear hHeld hz hfz;go_wp2_with fail;go_ret;exact ab1 HF.o BBf.o XGf.o zO.o
 have HF:=af (show oP k ⟨3,e,(f:Int),cb,cc,bg⟩=(k,0,3) by rw [HV.o,show aO k ⟨3,e,(f:Int),cb,cc,bg⟩ 1=3 from HFC.o.trans (if_pos (.inl ⟨by decide,h1⟩))];rfl);have h1b:((Kx.inf k.ag f).kind==1)=false:=by simpa using h1
 clear HFC HV h1;go_wp2_with fail;go_ret;exact aar HF.o (by decide) (B1.o.mono MI.o)
end Go.Proofs.YthcmmoibpgcgaaaGreatDoor
