/- KJ11, KJ12, KJ13, joined. -/
import Derived.Test.YthcmmoibpgcgaaaGreatDoorKCc
import Derived.Test.YthcmmoibpgcgaaaGreatDoorKJg
import Derived.Test.YthcmmoibpgcgaaaGreatDoorKJb
set_option maxHeartbeats 4000000
set_option maxRecDepth 100000
set_option linter.all false
open Nat renaming le_trans->A1,zero_add->A2
open Int renaming eq_ofNat_of_zero_le->A3
open Bool renaming and_eq_true->A4
open Go.Value renaming slice->A0
open Go.Proofs.Tryz
namespace Go.Proofs.YthcmmoibpgcgaaaGreatDoor
open Go.RowKit Kx
variable {base G:Nat}{w w':World}{r:Kx.Out}{k:Kx.Kernel}{code:Int}{um ui ue uc:Value}
def aa_ (base:Nat) (w:World) (G:Nat) (r:Kx.Out) (en:Ending) (w':World):Prop:=
 en=.returned (I_ r.2.2)/\Below base w w'/\(r.2.2=0->r.2.1=0/\∃ um ui ue uc,BX w' G 28 [um,ui,ue,uc]/\KO w' base um ui ue uc r.1)
def acr (base:Nat) (w:World) (G:Nat) (r:Kx.Out) (en:Ending) (w':World):Prop:=
 en=.returned (.tuple #[I_ r.2.1,I_ r.2.2])/\Below base w w'/\(r.2.2=0->∃ um ui ue uc,BX w' G 28 [um,ui,ue,uc]/\KO w' base um ui ue uc r.1)
theorem aar (h:r=(k,0,code)) (hc:code≠0) (hb:Below base w w'):aa_ base w G r (.returned (I_ code)) w':=by
 subst h;exact ⟨rfl,hb,fun h0=>absurd h0 hc⟩
theorem abe (h:r=(k,0,code)) (hc:code≠0) (hb:Below base w w'):acr base w G r (.returned (.tuple #[I_ 0,I_ code])) w':=by
 subst h;exact ⟨rfl,hb,fun h0=>absurd h0 hc⟩
theorem ab1 (h:r=(k,0,0)) (hb:Below base w w') (hX:BX w' G 28 [um,ui,ue,uc]) (hK:KO w' base um ui ue uc k):aa_ base w G r (.returned (I_ 0)) w':=by
 subst h;exact ⟨rfl,hb,fun _=>⟨rfl,_,_,_,_,hX,hK⟩⟩
theorem acb {v:Int} (h:r=(k,v,0)) (hb:Below base w w') (hX:BX w' G 28 [um,ui,ue,uc]) (hK:KO w' base um ui ue uc k):acr base w G r (.returned (.tuple #[I_ v,I_ 0])) w':=by
 subst h;exact ⟨rfl,hb,fun _=>⟨_,_,_,_,hX,hK⟩⟩
theorem acN (k:Kx.Kernel) (c:Kx.Call) (e base G:Nat) (um ui ue uc:Value) (w:World) (hO:KO w base um ui ue uc k) (hG:BX w G 28 [um,ui,ue,uc]) (hbase:base<=w.heap.size) (Y0:base<=G) (hok:az k=true) (hs:iQ k) (hce:c.env=e) (he:e<3) (hnm:c.name.size<=9223372036854775807) (hk8:c.kind=8) :
  Calls prog 217 #[dO G c] w (aa_ base w G (f_ k c)):=by
 obtain ⟨bQ,JF,ca,cb,cc,bg⟩:=c;simp only at hce hnm hk8;subst hce;obtain ⟨hmo,jI,h12,hco,h3,hro⟩:=aI hok;obtain ⟨w1,hw1,X1,XG,B1,s1⟩:=XF hG bQ e ca cb cc bg;have HO:=af (hO.below B1.o);have MI:=af (show base<=w.heap.size from hbase);have kG:=af hmo;have nM:=af jI;have fJ:=af h12;have H3:=af h3;have bF:=af hok;have Hs:=af hs;have HbG:=af Y0;have QY:=af hco;have mW:=af hro;have He:=af he;have Hnm:=af hnm;have S1:=af s1;have HR:=af (fun W=>oM bg W hnm);have HM:=af (fun (g:Kx.Str) (W:World) (um ui ue uc:Value) (hX:BX W G 28 [um,ui,ue,uc]) (hK:KO W base um ui ue uc k)=>zn k ⟨bQ,e,ca,cb,cc,bg⟩ e g G um ui ue uc W hX hK.rk.e rfl (by rw [h3];exact he))
 have HE:=af (fun (W:World) (um ui uc:Value) (b off cap:Nat) (hX:BX W G 28 [um,ui,A0 (some ⟨b,off,none⟩) k.ah.length cap,uc])=>wo k ⟨bQ,e,ca,cb,cc,bg⟩ e G b off cap um ui uc W hX rfl (by rw [h3];exact he))
 have p0:=XG.o.c4;have c0:=X1.o.c7;clear hO hG hmo jI h12 hco h3 hok hs Y0 hbase hro he hnm s1;subst hk8;unfold dO at HM HE ⊢;have HV:=af (show f_ k ⟨8,e,ca,cb,cc,bg⟩=if !Kx.bK ca 0 2||!bT bg||((8:Int)==9&&ca==(e:Int)) then (k,0,3) else if !jQ k e bg then (k,0,1) else if (jS (au k.ah ca.toNat).aB bg).2 then ({ k with ah:=Kx.aY k.ah ca.toNat (jS (au k.ah ca.toNat).aB bg).1 },0,0) else (k,0,4) from rfl);go_enter func217,ntmps217;go_wp2_with fail;refine (BR _ _).mono ?_;rintro en w2 ⟨rfl,rfl⟩
 cases hin:Kx.bK ca 0 2 with
 | false =>
  have HF:=af (show f_ k ⟨8,e,ca,cb,cc,bg⟩=(k,0,3) by rw [HV.o,hin];rfl);clear hin;go_wp2_with fail;go_ret;exact aar HF.o (by decide) (B1.o.mono MI.o)
 | true =>
  go_wp2_with fail;refine (HR.o w1).mono ?_;rintro en w3 ⟨rfl,hb⟩;obtain ⟨X1,XG,HO,B1⟩:=aew hb X1 XG HO B1;clear p0 c0;have p0:=XG.o.c4;have c0:=X1.o.c7;clear hb
  cases hrk:bT bg with
  | false =>
   have HF:=af (show f_ k ⟨8,e,ca,cb,cc,bg⟩=(k,0,3) by rw [HV.o,hin,hrk];rfl);clear hin hrk;go_wp2_with fail;go_ret;exact aar HF.o (by decide) (B1.o.mono MI.o)
  | true =>
   go_wp2_with fail;refine (HM.o bg w3 _ _ _ _ XG.o HO.o).mono ?_;rintro en w4 ⟨rfl,hb⟩;obtain ⟨X1,XG,HO,B1⟩:=aew hb X1 XG HO B1;clear p0 c0;have p0:=XG.o.c4;have c0:=X1.o.c7;clear hb
   cases wR:jQ k (⟨8,e,ca,cb,cc,bg⟩:Kx.Call).env bg with
   | false =>
    have HF:=af (show f_ k ⟨8,e,ca,cb,cc,bg⟩=(k,0,1) by rw [HV.o,hin,hrk];simp only at wR;rw [wR];rfl);clear hin hrk wR;go_wp2_with fail;go_ret;exact aar HF.o (by decide) (B1.o.mono MI.o)
   | true =>
    obtain ⟨ha0,ha2⟩:=Kx.ay.1 hin;obtain ⟨a,rfl⟩:=A3 ha0;have PX:a<3:=by omega
    have hal:a<k.ah.length:=by rw [H3.o];exact PX
    obtain ⟨b,off,cap,u,rfl,hbl,q0,q1,hr⟩:=HO.o.rk.e.at hal;have kQ:(a:Int)<(k.ah.length:Int):=by omega
    have zG:=af (show f_ k ⟨8,e,(a:Int),cb,cc,bg⟩=if (jS (au k.ah a).aB bg).2 then ({ k with ah:=Kx.aY k.ah a (jS (au k.ah a).aB bg).1 },0,0) else (k,0,4) by rw [HV.o,hin,hrk];simp only at wR;rw [wR];rfl);have Hq:=af q0;have ND:=af hbl;have Hr:=af hr;have Dk:=af hal;obtain ⟨ua,uc',rfl,_,_⟩:=RS.val hr;have HRO:=af (jW bF.o a PX);have Om:=af hrk;have P_:=af (show ∀ x ∈ (au k.ah a).aB,x.size<=9223372036854775807 from Hs.o.2 a hal);clear HV hin hrk wR ha0 ha2 PX hal q0 q1 hr hbl;go_wp2_with fail;go_quiet (fail);generalize hd:World.drewN w4 _=d;have D:Below w4.heap.size w4 d:=hd ▸ below_drewN _ _;obtain ⟨X1,XG,HO,B1⟩:=aew D X1 XG HO B1;clear p0 c0
    have p0:=XG.o.c4;have c0:=X1.o.c7;obtain ⟨d6,hd6⟩:=XP d.drew;have D6:=af (show Below w4.heap.size w4 d6 from D.trans ((hd6 ▸ Below.bz fZ:Below d.heap.size d d6).mono D.size));have E6:=af (show Below d.heap.size d d6 from hd6 ▸ Below.bz fZ);have Hd6:=af hd6;have K6:=af (show ∀ W,Below d6.heap.size d6 W->W.cell? ⟨b,off+a*2,none⟩=some (A0 ua (au k.ah a).aB.length uc')/\W.cell? ⟨w.heap.size,6,none⟩=some (.string bg) from fun W hb=>⟨((D6.o.trans (hb.mono D6.o.size)).cell (p:=⟨b,off+a*2,none⟩) ND.o).trans Hq.o,((X1.o.below E6.o).below hb).cell 6⟩)
    have Uj:=af (abC _ bg _ d6 (RS.below Hr.o D6.o) P_.o HRO.o Om.o Hnm.o);clear hd D hd6 p0 c0;go_wp2_with fail;refine afY (xs:=[]) K6 (by rw [Hd6.o];exact fZ) fun hHeld=>?_
    rw [Hd6.o];rw [Hd6.o] at hHeld;refine tL 0 ?_;refine tL 1 ?_;refine tL 2 ?_;refine tL 3 ?_;refine tL 4 ?_;refine tL 5 ?_;refine tL 6 ?_;refine aho 7 fun K hK=>?_;go_simp;go_at_call 270;refine Uj.o.mono ?_;rintro en w7 ⟨u7,rfl,Y1,hb7⟩;have Ho7:=af Y1;have ZH:=af hb7;clear Y1 hb7;refine afX hK (K6.o _ ZH.o) fun hHeld=>?_
    clear hK K;refine tL 8 ?_;refine tL 9 ?_;refine tL 10 ?_;refine tL 11 ?_;refine tL 12 ?_;refine gY (by kernel_rfl) ?_ _;have E7:Below d.heap.size d w7:=E6.o.trans (ZH.o.mono E6.o.size);have hE7:OE w7 base d.heap.size (A0 (some ⟨b,off,none⟩) k.ah.length cap) k.ah:=HO.o.e.below E7;have hbd:base<=d.heap.size:=A1 MI.o B1.o.size;obtain ⟨X1,XG,HO,B1⟩:=aew E7 X1 XG HO B1;obtain ⟨a7,c7,rfl,_,_⟩:=RS.val Ho7.o.rs
    cases hok2:(jS (au k.ah a).aB bg).2 with
    | false =>
     have HF:=af (show f_ k ⟨8,e,(a:Int),cb,cc,bg⟩=(k,0,4) by rw [zG.o,hok2];rfl);clear hok2 hE7;go_wp2_with fail;go_ret;exact aar HF.o (by decide) (B1.o.mono MI.o)
    | true =>
     have HF:=af (show f_ k ⟨8,e,(a:Int),cb,cc,bg⟩=({ k with ah:=Kx.aY k.ah a (jS (au k.ah a).aB bg).1 },0,0) by rw [zG.o,hok2];rfl);obtain ⟨b',cap',e2,hbb,hblt,⟨cs,hcs⟩,⟨z,hz⟩,hfz,hK⟩:=HO.o.aY hE7 hbd E7.size Dk.o ⟨a7,_,c7⟩ _ (Ho7.o.mono E6.o.size);obtain ⟨⟨rfl,rfl,_⟩,_,rfl⟩:=Zb e2;clear e2;rw [A2];have Hcs:=af hcs;have OL:=af hK;have S_:=af hbb;clear hok2 hE7 hcs hK hbb hblt;go_wp2_with fail;go_ret;exact ab1 HF.o ((B1.o.mono MI.o).setCell (p:=⟨b,a*2,none⟩) S_.o _) (XG.o.other (XG.o.ne Hcs.o (by decide)) _ _) OL.o
theorem acA (k:Kx.Kernel) (c:Kx.Call) (e base G:Nat) (um ui ue uc:Value) (w:World) (hO:KO w base um ui ue uc k) (hG:BX w G 28 [um,ui,ue,uc]) (hbase:base<=w.heap.size) (Y0:base<=G) (hok:az k=true) (hs:iQ k) (hce:c.env=e) (he:e<3) (hnm:c.name.size<=9223372036854775807) (hk9:c.kind=9) :
  Calls prog 218 #[dO G c] w (aa_ base w G (f_ k c)):=by
 obtain ⟨bQ,JF,ca,cb,cc,bg⟩:=c;simp only at hce hnm hk9;subst hce;obtain ⟨hmo,jI,h12,hco,h3,hro⟩:=aI hok;obtain ⟨w1,hw1,X1,XG,B1,s1⟩:=XF hG bQ e ca cb cc bg;have HO:=af (hO.below B1.o);have MI:=af (show base<=w.heap.size from hbase);have kG:=af hmo;have nM:=af jI;have fJ:=af h12;have H3:=af h3;have bF:=af hok;have Hs:=af hs;have HbG:=af Y0;have QY:=af hco;have mW:=af hro;have He:=af he;have Hnm:=af hnm;have S1:=af s1;have HR:=af (fun W=>oM bg W hnm);have HM:=af (fun (g:Kx.Str) (W:World) (um ui ue uc:Value) (hX:BX W G 28 [um,ui,ue,uc]) (hK:KO W base um ui ue uc k)=>zn k ⟨bQ,e,ca,cb,cc,bg⟩ e g G um ui ue uc W hX hK.rk.e rfl (by rw [h3];exact he))
 have HE:=af (fun (W:World) (um ui uc:Value) (b off cap:Nat) (hX:BX W G 28 [um,ui,A0 (some ⟨b,off,none⟩) k.ah.length cap,uc])=>wo k ⟨bQ,e,ca,cb,cc,bg⟩ e G b off cap um ui uc W hX rfl (by rw [h3];exact he))
 have p0:=XG.o.c4;have c0:=X1.o.c7;clear hO hG hmo jI h12 hco h3 hok hs Y0 hbase hro he hnm s1;subst hk9;unfold dO at HM HE ⊢;have HV:=af (show f_ k ⟨9,e,ca,cb,cc,bg⟩=if !Kx.bK ca 0 2||!bT bg||((9:Int)==9&&ca==(e:Int)) then (k,0,3) else if !jQ k e bg then (k,0,1) else if !Kx.allowed k.ag (Kx.reach k.mem (au k.ah ca.toNat).root) (jm (au k.ah ca.toNat).aB bg) then (k,0,2) else ({ k with ah:=Kx.aY k.ah ca.toNat (jm (au k.ah ca.toNat).aB bg) },0,0) from rfl);go_enter func218,ntmps218;go_wp2_with fail;refine (BR _ _).mono ?_;rintro en w2 ⟨rfl,rfl⟩
 cases hin:Kx.bK ca 0 2 with
 | false =>
  have HF:=af (show f_ k ⟨9,e,ca,cb,cc,bg⟩=(k,0,3) by rw [HV.o,hin];rfl);clear hin;go_wp2_with fail;go_ret;exact aar HF.o (by decide) (B1.o.mono MI.o)
 | true =>
  cases hae:(ca==(e:Int)) with
  | true =>
   have HF:=af (show f_ k ⟨9,e,ca,cb,cc,bg⟩=(k,0,3) by rw [HV.o,hin,hae];simp);clear hin;go_wp2_with fail;go_ret;exact aar HF.o (by decide) (B1.o.mono MI.o)
  | false =>
   go_wp2_with fail;refine (HR.o w1).mono ?_;rintro en w3 ⟨rfl,hb⟩;obtain ⟨X1,XG,HO,B1⟩:=aew hb X1 XG HO B1;clear p0 c0;have p0:=XG.o.c4;have c0:=X1.o.c7;clear hb
   cases hrk:bT bg with
   | false =>
    have HF:=af (show f_ k ⟨9,e,ca,cb,cc,bg⟩=(k,0,3) by rw [HV.o,hin,hrk];rfl);clear hin hrk hae;go_wp2_with fail;go_ret;exact aar HF.o (by decide) (B1.o.mono MI.o)
   | true =>
    go_wp2_with fail;refine (HM.o bg w3 _ _ _ _ XG.o HO.o).mono ?_;rintro en w4 ⟨rfl,hb⟩;obtain ⟨X1,XG,HO,B1⟩:=aew hb X1 XG HO B1;clear p0 c0;have p0:=XG.o.c4;have c0:=X1.o.c7;clear hb
    cases wR:jQ k (⟨9,e,ca,cb,cc,bg⟩:Kx.Call).env bg with
    | false =>
     have HF:=af (show f_ k ⟨9,e,ca,cb,cc,bg⟩=(k,0,1) by rw [HV.o,hin,hrk,hae];simp only at wR;rw [wR];rfl);clear hin hrk wR hae;go_wp2_with fail;go_ret;exact aar HF.o (by decide) (B1.o.mono MI.o)
    | true =>
     obtain ⟨ha0,ha2⟩:=Kx.ay.1 hin;obtain ⟨a,rfl⟩:=A3 ha0;have PX:a<3:=by omega
     have hal:a<k.ah.length:=by rw [H3.o];exact PX
     obtain ⟨b,off,cap,u,rfl,hbl,q0,q1,hr⟩:=HO.o.rk.e.at hal;have kQ:(a:Int)<(k.ah.length:Int):=by omega
     have zG:=af (show f_ k ⟨9,e,(a:Int),cb,cc,bg⟩=if !Kx.allowed k.ag (Kx.reach k.mem (au k.ah a).root) (jm (au k.ah a).aB bg) then (k,0,2) else ({ k with ah:=Kx.aY k.ah a (jm (au k.ah a).aB bg) },0,0) by rw [HV.o,hin,hrk,hae];simp only at wR;rw [wR];rfl);have Hq:=af q0;have Hq1:=af q1;have ND:=af hbl;have Hr:=af hr;have Dk:=af hal;obtain ⟨ua,uc',rfl,_,_⟩:=RS.val hr;have HRO:=af (jW bF.o a PX);have Om:=af hrk;have Jw:=af (mW.o a PX);have P_:=af (show ∀ x ∈ (au k.ah a).aB,x.size<=9223372036854775807 from Hs.o.2 a hal);clear HV hin hrk wR ha0 ha2 PX hal q0 q1 hr hbl hae;go_wp2_with fail;go_quiet (fail);generalize hd:World.drewN w4 _=d;have D:Below w4.heap.size w4 d:=hd ▸ below_drewN _ _
     obtain ⟨X1,XG,HO,B1⟩:=aew D X1 XG HO B1;clear p0 c0;have p0:=XG.o.c4;have c0:=X1.o.c7;obtain ⟨d6,hd6⟩:=XP d.drew;have D6:=af (show Below w4.heap.size w4 d6 from D.trans ((hd6 ▸ Below.bz fZ:Below d.heap.size d d6).mono D.size));have E6:=af (show Below d.heap.size d d6 from hd6 ▸ Below.bz fZ);have Hd6:=af hd6;have K6:=af (show ∀ W,Below d6.heap.size d6 W->W.cell? ⟨b,off+a*2,none⟩=some (A0 ua (au k.ah a).aB.length uc')/\W.cell? ⟨w.heap.size,6,none⟩=some (.string bg) from fun W hb=>⟨((D6.o.trans (hb.mono D6.o.size)).cell (p:=⟨b,off+a*2,none⟩) ND.o).trans Hq.o,((X1.o.below E6.o).below hb).cell 6⟩)
     have Uj:=af (abl _ bg _ d6 (RS.below Hr.o D6.o) P_.o HRO.o Om.o Hnm.o);clear hd D hd6 p0 c0;go_wp2_with fail;refine afY (xs:=[]) K6 (by rw [Hd6.o];exact fZ) fun hHeld=>?_
     rw [Hd6.o];rw [Hd6.o] at hHeld;refine tL 0 ?_;refine tL 1 ?_;refine tL 2 ?_;refine tL 3 ?_;refine tL 4 ?_;refine tL 5 ?_;refine tL 6 ?_;refine aho 7 fun K hK=>?_;go_simp;go_at_call 271;refine Uj.o.mono ?_;rintro en w7 ⟨u7,rfl,Y1,hb7⟩;have Ho7:=af Y1;have ZH:=af hb7;clear Y1 hb7;refine afX hK (K6.o _ ZH.o) fun hHeld=>?_
     clear hK K;refine tL 8 ?_;refine gY (by kernel_rfl) ?_ _;have E7:Below d.heap.size d w7:=E6.o.trans (ZH.o.mono E6.o.size);have D7:=af (D6.o.trans (ZH.o.mono D6.o.size));have hE7:=af (show OE w7 base d.heap.size (A0 (some ⟨b,off,none⟩) k.ah.length cap) k.ah from HO.o.e.below E7);have Hbd:=af (show base<=d.heap.size from A1 MI.o B1.o.size);have adF:=af E7.size;obtain ⟨X1,XG,HO,B1⟩:=aew E7 X1 XG HO B1;obtain ⟨a7,c7,rfl,_,_⟩:=RS.val Ho7.o.rs;obtain ⟨d8,hd8⟩:=XP w7.drew;have E8:=af (show Below w7.heap.size w7 d8 from hd8 ▸ Below.bz fZ);have Hd8:=af hd8
     have K8:=af (show ∀ W,Below d8.heap.size d8 W->W.cell? ⟨w.heap.size,0,none⟩=some (.pointer (some ⟨G,0,none⟩))/\W.cell? ⟨G,0,none⟩=some um/\W.cell? ⟨b,off+a*2+1,none⟩=some (I_ (au k.ah a).root) from fun W hb=>⟨((X1.o.below E8.o).below hb).cell 0,((XG.o.below E8.o).below hb).cell 0,(((D7.o.trans (E8.o.mono D7.o.size)).trans (hb.mono (D7.o.trans (E8.o.mono D7.o.size)).size)).cell (p:=⟨b,off+a*2+1,none⟩) ND.o).trans Hq1.o⟩)
     have Q8:=af (og k.mem (au k.ah a).root um d8 (HO.o.below E8.o).rk.m kG.o Jw.o);clear hd8 E7;go_wp2_with fail;refine afY (xs:=[]) K8 (by rw [Hd8.o];exact fZ) fun hHeld=>?_
     rw [Hd8.o];rw [Hd8.o] at hHeld;refine tL 0 ?_;refine tL 1 ?_;refine tL 2 ?_;refine tL 3 ?_;refine tL 4 ?_;refine tL 5 ?_;refine tL 6 ?_;refine tL 7 ?_;refine tL 8 ?_;refine tL 9 ?_;refine tL 10 ?_;refine tL 11 ?_;refine aho 12 fun K hK=>?_;go_simp;go_at_call 65;refine Q8.o.mono ?_;rintro en w9 ⟨u9,rfl,Rh,hb9⟩;obtain ⟨a9,c9,rfl⟩:=Rh.ri.val;have Uc:=af Rh;have kV:=af hb9;clear Rh hb9;refine afX hK (K8.o _ kV.o) fun hHeld=>?_
     clear hK K;have E9:=af (E8.o.trans (kV.o.mono E8.o.size));have O9:=af (show OS df 1 9 w9 d6.heap.size _ (jm (au k.ah a).aB bg) from Ho7.o.below E9.o);have SX:=af (lH k.ag (Kx.reach k.mem (au k.ah a).root) (jm (au k.ah a).aB bg) G _ _ ui w9 (HO.o.below E9.o).rk.i Uc.o.ri O9.o.rs (fun x hx=>by rw [fJ.o];exact jK x hx) ((XG.o.below E9.o).cell 1));refine aho 13 fun K hK=>?_;go_simp;go_at_call 64;refine SX.o.mono ?_;rintro en w10 ⟨rfl,ach⟩;have ab8:=af ach;clear ach;refine afX hK (K8.o _ (kV.o.trans (ab8.o.mono kV.o.size))) fun hHeld=>?_
     clear hK K;refine tL 14 ?_;refine gY (by kernel_rfl) ?_ _;have E10:Below w7.heap.size w7 w10:=E9.o.trans (ab8.o.mono E9.o.size);have VV:=af (Ho7.o.below E10);have adH:=af (hE7.o.below E10);obtain ⟨X1,XG,HO,B1⟩:=aew E10 X1 XG HO B1;have adk:=af E10.size;clear E10
     cases hal2:Kx.allowed k.ag (Kx.reach k.mem (au k.ah a).root) (jm (au k.ah a).aB bg) with
     | false =>
      have HF:=af (show f_ k ⟨9,e,(a:Int),cb,cc,bg⟩=(k,0,2) by rw [zG.o,hal2];rfl);clear hal2;go_wp2_with fail;go_ret;exact aar HF.o (by decide) (B1.o.mono MI.o)
     | true =>
      have HF:=af (show f_ k ⟨9,e,(a:Int),cb,cc,bg⟩=({ k with ah:=Kx.aY k.ah a (jm (au k.ah a).aB bg) },0,0) by rw [zG.o,hal2];rfl);obtain ⟨b',cap',e2,hbb,hblt,⟨cs,hcs⟩,⟨z,hz⟩,hfz,hK⟩:=HO.o.aY adH.o Hbd.o (A1 adF.o adk.o) Dk.o ⟨a7,_,c7⟩ _ (VV.o.mono E6.o.size);obtain ⟨⟨rfl,rfl,_⟩,_,rfl⟩:=Zb e2;clear e2;rw [A2];have Hcs:=af hcs;have OL:=af hK;have S_:=af hbb;clear hal2 hcs hK hbb hblt;go_wp2_with fail;go_ret;exact ab1 HF.o ((B1.o.mono MI.o).setCell (p:=⟨b,a*2,none⟩) S_.o _) (XG.o.other (XG.o.ne Hcs.o (by decide)) _ _) OL.o
theorem KO.ac_ {t:Nat} {u:Value} {l:List Value} {c:List Kx.Cached} (h:KO w base um ui ue uc k) (hX:BX w G t l) (ht:Box? t) (o:Nat) (v:Value) (ho:OS b_ 4 103 w base u c):KO (w.setCell ⟨G,o,none⟩ v) base um ui ue u ⟨k.mem,k.ag,k.ah,c⟩:=
 ⟨(h.box hX ht o v).m,(h.box hX ht o v).i,(h.box hX ht o v).e,ho.dh (aK w G o v) hX ht.2.2.2.2.2⟩
theorem KO.acs {t:Nat} {u:Value} {l:List Value} {c:List aG} (h:KO w base um ui ue uc k) (hX:BX w G t l) (ht:Box? t) (o:Nat) (v:Value) (ho:OS bH 3 98 w base u c):KO (w.setCell ⟨G,o,none⟩ v) base um u ue uc ⟨k.mem,c,k.ah,k.cache⟩:=
 ⟨(h.box hX ht o v).m,ho.dh (aK w G o v) hX ht.2.2.1,(h.box hX ht o v).e,(h.box hX ht o v).c⟩
theorem ac0 (k:Kx.Kernel) (c:Kx.Call) (e base G:Nat) (um ui ue uc:Value) (w:World) (hO:KO w base um ui ue uc k) (hG:BX w G 28 [um,ui,ue,uc]) (hbase:base<=w.heap.size) (Y0:base<=G) (hok:az k=true) (hs:iQ k) (hce:c.env=e) (he:e<3) (hnm:c.name.size<=9223372036854775807) :
  Calls prog 216 #[dO G c] w (aa_ base w G (mM k c)):=by
 obtain ⟨bQ,JF,ca,cb,cc,bg⟩:=c;simp only at hce hnm;subst hce;obtain ⟨hmo,jI,h12,hco,h3,hro⟩:=aI hok;obtain ⟨w1,hw1,X1,XG,B1,s1⟩:=XF hG bQ e ca cb cc bg;have HO:=af (hO.below B1.o);have MI:=af (show base<=w.heap.size from hbase);have kG:=af hmo;have nM:=af jI;have fJ:=af h12;have H3:=af h3;have bF:=af hok;have Hs:=af hs;have HbG:=af Y0;have QY:=af hco;have mW:=af hro;have He:=af he;have Hnm:=af hnm;have S1:=af s1;have HR:=af (fun W=>oM bg W hnm);have HM:=af (fun (g:Kx.Str) (W:World) (um ui ue uc:Value) (hX:BX W G 28 [um,ui,ue,uc]) (hK:KO W base um ui ue uc k)=>zn k ⟨bQ,e,ca,cb,cc,bg⟩ e g G um ui ue uc W hX hK.rk.e rfl (by rw [h3];exact he))
 have HE:=af (fun (W:World) (um ui uc:Value) (b off cap:Nat) (hX:BX W G 28 [um,ui,A0 (some ⟨b,off,none⟩) k.ah.length cap,uc])=>wo k ⟨bQ,e,ca,cb,cc,bg⟩ e G b off cap um ui uc W hX rfl (by rw [h3];exact he))
 obtain ⟨p0,p1,p2,p3⟩:=XG.o.c4;have c0:=X1.o.c7;clear hO hG hmo jI h12 hco h3 hok hs Y0 hbase hro he hnm s1;unfold dO at HM HE ⊢;have HV:=af (show mM k ⟨bQ,e,ca,cb,cc,bg⟩=if ca≠-1/\(!Kx.bK ca 0 11||(Kx.inf k.ag ca.toNat).kind != 3) then (k,0,3) else if !Kx.allowed k.ag (Kx.reach k.mem ca) (au k.ah e).aB then (k,0,1) else (⟨k.mem,if 0<=ca then Kx.aF (if 0<=(au k.ah e).root then Kx.aF k.ag (au k.ah e).root.toNat (-1) else k.ag) ca.toNat 1 else (if 0<=(au k.ah e).root then Kx.aF k.ag (au k.ah e).root.toNat (-1) else k.ag),Kx.dE k.ah e ca,fP k.cache e⟩,0,0) from rfl);have hel:e<k.ah.length:=by rw [H3.o];exact He.o
 obtain ⟨b,off,cap,u,rfl,hbl,q0,q1,hr⟩:=HO.o.rk.e.at hel;obtain ⟨ua,uc',rfl,_,_⟩:=RS.val hr;obtain ⟨gi,ci,rfl,aaT,aa2⟩:=HO.o.i.shape (by rw [fJ.o];decide);have Hq:=af q0;have Hq1:=af q1;have ND:=af hbl;have Hr:=af hr;have Yr:=af hel;have HN:=af (oI.MZ nM.o);have Jw:=af (mW.o e He.o);clear q0 q1 hr hbl hel aaT aa2;go_enter func216,ntmps216;obtain ⟨d,hd1⟩:=XP w1.drew;have D:=af (show Below w1.heap.size w1 d from hd1 ▸ Below.bz fZ);have Hd:=af hd1;clear hd1;obtain ⟨bad,hbad⟩:=XP (decide (ca≠-1)&&(!Kx.bK ca 0 11||(Kx.inf k.ag ca.toNat).kind != 3));go_upto_region 2 with fail;go_cut [26] from 8 (fun s26 wx=>s26=.bool bad/\wx=w1)
 case first =>
  by_cases h1:ca=-1
  ·subst h1;obtain rfl:bad=false:=by rw [<-hbad];rfl
   go_wp2_with fail;go_meet;exact ⟨rfl,rfl⟩
  have hne:(ca != -1)=true:=by simpa using h1
  go_wp2_with fail;refine (jO _ _).mono ?_;rintro en w2 ⟨rfl,rfl⟩
  cases hin:Kx.bK ca 0 11 with
  | false =>
   obtain rfl:bad=true:=by rw [<-hbad,hin];simpa using h1
   clear hbad;go_wp2_with fail;go_meet;exact ⟨rfl,rfl⟩
  | true =>
   obtain ⟨ha0,ha2⟩:=Kx.ay.1 hin;obtain ⟨f,rfl⟩:=A3 ha0;have hfl:f<k.ag.length:=by rw [fJ.o];omega
   have wJ:(f:Int)<(k.ag.length:Int):=by omega
   obtain ⟨_,_,_,ev,_,d0,_,_⟩:=bV.at HO.o.rk.i hfl;obtain ⟨⟨rfl,rfl,_⟩,_,rfl⟩:=Zb ev;clear ev;rw [A2] at d0;have hb2:((Kx.inf k.ag f).kind != 3)=bad:=by rw [<-hbad,hin,show ((f:Int)).toNat=f from rfl];simp
   generalize (Kx.inf k.ag f).kind=kd at d0 hb2;subst hb2;clear hbad hin ha0 ha2 h1;go_wp2_with fail;go_meet;exact ⟨rfl,rfl⟩
 case rest =>
  obtain ⟨rfl,hwc⟩:=hcut;obtain rfl:w1=_:=hwc.symm
  cases bad with
  | true =>
   have HF:=af (show mM k ⟨bQ,e,ca,cb,cc,bg⟩=(k,0,3) by rw [HV.o];simp only [A4,decide_eq_true_eq] at hbad;exact if_pos hbad);clear hbad;go_wp2_with fail;go_ret;exact aar HF.o (by decide) (B1.o.mono MI.o)
  | false =>
   have zG:=af (show mM k ⟨bQ,e,ca,cb,cc,bg⟩=if !Kx.allowed k.ag (Kx.reach k.mem ca) (au k.ah e).aB then (k,0,1) else (⟨k.mem,if 0<=ca then Kx.aF (if 0<=(au k.ah e).root then Kx.aF k.ag (au k.ah e).root.toNat (-1) else k.ag) ca.toNat 1 else (if 0<=(au k.ah e).root then Kx.aF k.ag (au k.ah e).root.toNat (-1) else k.ag),Kx.dE k.ah e ca,fP k.cache e⟩,0,0) by rw [HV.o,if_neg (fun h=>by rw [<-Bool.not_eq_true] at hbad;exact hbad (by rw [A4,decide_eq_true_eq];exact h))])
   have Z5:=af (show -1<=ca/\ca<=11 from by
    by_cases h1:ca=-1
    ·omega
    cases hin:Kx.bK ca 0 11 with
    | true=>have:=Kx.ay.1 hin;omega
    | false=>rw [hin] at hbad;simp [h1] at hbad)
   clear HV hbad;go_wp2_with fail;have DW:=af (fun (W:World) (hb:Below d.heap.size d W)=>(D.o.trans (hb.mono D.o.size):Below w1.heap.size w1 W))
   have K4:=af (show ∀ W,Below d.heap.size d W->((fun W:World=>W.cell? ⟨w.heap.size,0,none⟩=some (.pointer (some ⟨G,0,none⟩))/\W.cell? ⟨w.heap.size,1,none⟩=some (I_ bQ)/\W.cell? ⟨w.heap.size,2,none⟩=some (I_ e)/\W.cell? ⟨w.heap.size,3,none⟩=some (I_ ca)/\W.cell? ⟨w.heap.size,4,none⟩=some (I_ cb)/\W.cell? ⟨w.heap.size,5,none⟩=some (I_ cc)/\W.cell? ⟨w.heap.size,6,none⟩=some (.string bg)/\W.cell? ⟨G,0,none⟩=some um/\W.cell? ⟨b,off+e*2,none⟩=some (A0 ua (au k.ah e).aB.length uc'))) W from fun W hb=>⟨(X1.o.below (DW.o W hb)).cell 0,(X1.o.below (DW.o W hb)).cell 1,(X1.o.below (DW.o W hb)).cell 2,(X1.o.below (DW.o W hb)).cell 3,(X1.o.below (DW.o W hb)).cell 4,(X1.o.below (DW.o W hb)).cell 5,(X1.o.below (DW.o W hb)).cell 6,(XG.o.below (DW.o W hb)).cell 0,((DW.o W hb).cell (p:=⟨b,off+e*2,none⟩) ND.o).trans Hq.o⟩)
   have HEc:=af (fun W (hb:Below d.heap.size d W)=>HE.o W um _ uc b off cap (XG.o.below (DW.o W hb)))
   have HRc:=af (fun W (hb:Below d.heap.size d W)=>og k.mem ca um W (HO.o.below (DW.o W hb)).rk.m kG.o Z5.o.2)
   have HAc:=af (fun W (u:Value) (hb:Below d.heap.size d W) (hu:RI W u (fU (Kx.reach k.mem ca)))=>lH k.ag (Kx.reach k.mem ca) (au k.ah e).aB G _ u _ W (HO.o.below (DW.o W hb)).rk.i hu (RS.below Hr.o (DW.o W hb)) (fun x hx=>by rw [fJ.o];exact jK x hx) ((XG.o.below (DW.o W hb)).cell 1))
   clear p0 p1 p2 p3 c0;refine afY (xs:=[]) K4 (by rw [Hd.o];exact fZ) fun hHeld=>?_
   rw [Hd.o];rw [Hd.o] at hHeld;refine tL 0 ?_;refine tL 1 ?_;refine tL 2 ?_;refine tL 7 ?_;refine tL 8 ?_;refine tL 9 ?_;refine tL 10 ?_;refine tL 11 ?_;refine tL 12 ?_;refine aho 3 fun K hK=>?_;go_simp;go_at_call 263;refine (HEc.o d fZ).mono ?_;rintro en v1 ⟨rfl,hb1⟩;have Hb1:=af hb1;clear hb1;refine afX hK (K4.o _ Hb1.o) fun hHeld=>?_
   clear hK K;refine tL 4 ?_;refine tL 5 ?_;refine tL 6 ?_;refine aho 13 fun K hK=>?_;go_simp;go_at_call 65;refine (HRc.o v1 Hb1.o).mono ?_;rintro en v9 ⟨u9,rfl,Rh,hb9⟩;obtain ⟨a9,c9,rfl⟩:=Rh.ri.val;have Uc:=af Rh.ri;have kV:=af (Hb1.o.trans (hb9.mono Hb1.o.size));clear Rh hb9 Hb1;refine afX hK (K4.o _ kV.o) fun hHeld=>?_
   clear hK K;refine aho 14 fun K hK=>?_;go_simp;go_at_call 64;refine (HAc.o v9 _ kV.o Uc.o).mono ?_;rintro en v10 ⟨rfl,ach⟩;have ab8:=af (kV.o.trans (ach.mono kV.o.size));clear ach;refine afX hK (K4.o _ ab8.o) fun hHeld=>?_
   clear hK K;refine tL 15 ?_;refine gY (by kernel_rfl) ?_ _;have E10:=af (DW.o _ ab8.o);clear K4 HEc HRc HAc Uc kV ab8 DW D Hd hHeld;obtain ⟨X1,XG,HO,B1⟩:=aew E10.o X1 XG HO B1;obtain ⟨p0,p1,p2,p3⟩:=XG.o.c4;have c0:=X1.o.c7
   cases hal:Kx.allowed k.ag (Kx.reach k.mem ca) (au k.ah e).aB with
   | false =>
    have HF:=af (show mM k ⟨bQ,e,ca,cb,cc,bg⟩=(k,0,1) by rw [zG.o,hal];rfl);clear hal;go_wp2_with fail;go_ret;exact aar HF.o (by decide) (B1.o.mono MI.o)
   | true =>
    have HF:=af (show mM k ⟨bQ,e,ca,cb,cc,bg⟩=(⟨k.mem,if 0<=ca then Kx.aF (if 0<=(au k.ah e).root then Kx.aF k.ag (au k.ah e).root.toNat (-1) else k.ag) ca.toNat 1 else (if 0<=(au k.ah e).root then Kx.aF k.ag (au k.ah e).root.toNat (-1) else k.ag),Kx.dE k.ah e ca,fP k.cache e⟩,0,0) by rw [zG.o,hal];rfl);clear hal zG;go_wp2_with fail;refine (HE.o v10 um _ uc b off cap XG.o).mono ?_;rintro en v11 ⟨rfl,hb⟩;have E11:=af (E10.o.trans (hb.mono E10.o.size));obtain ⟨X1,XG,HO,B1⟩:=aew hb X1 XG HO B1;clear p0 p1 p2 p3 c0;obtain ⟨p0,p1,p2,p3⟩:=XG.o.c4;have c0:=X1.o.c7;clear hb;have q1:=(E11.o.cell (p:=⟨b,off+e*2+1,none⟩) ND.o).trans Hq1.o
    generalize (au k.ah e).root=old at q1 HF Jw Hq1;obtain ⟨I1,hI1⟩:∃ I1,(if 0<=old then Kx.aF k.ag old.toNat (-1) else k.ag)=I1:=⟨_,rfl⟩;rw [hI1] at HF;have HI1:=af hI1;have HIl:=af (show I1.length=k.ag.length by rw [<-hI1];split <;> simp [Kx.aF]);have HNI:=af (show oI 1001 I1 by rw [<-hI1];split;exact HN.o.set (.inr rfl) (by rw [fJ.o];have:=Jw.o;omega);intro g;have:=HN.o g;omega);have BB:=af (B1.o.mono MI.o);clear hI1 E10;go_upto_if 49 with fail
    go_cut [4] from 5 (fun s4 wx=>s4=I_ old/\TI (BX wx w.heap.size 168 [.pointer (some ⟨G,0,none⟩),I_ bQ,I_ e,I_ ca,I_ cb,I_ cc,.string bg])/\TI (BX wx G 28 [um,A0 (some ⟨gi,0,none⟩) k.ag.length ci,A0 (some ⟨b,off,none⟩) k.ah.length cap,uc])/\TI (KO wx base um (A0 (some ⟨gi,0,none⟩) k.ag.length ci) (A0 (some ⟨b,off,none⟩) k.ah.length cap) uc ⟨k.mem,I1,k.ah,k.cache⟩)/\TI (Below base w wx))
    case first =>
     by_cases ho:0<=old
     ·obtain ⟨fo,rfl⟩:=A3 ho;have hfo:fo<12:=by have:=Jw.o;omega
      obtain ⟨g',c',ev,hbg,aag,⟨Jq,hgk⟩,_,hfz,hrf,hset⟩:=HO.o.aF (f:=fo) (by rw [fJ.o];exact hfo);obtain ⟨⟨rfl,_⟩,_,rfl⟩:=Zb ev;clear ev;have hn:=HN.o fo;obtain ⟨r,hr⟩:=XP ((Kx.inf k.ag fo).refs);have HI2:=af (show I1=k.ag.set fo { Kx.inf k.ag fo with refs:=r - 1 } by rw [<-HI1.o,if_pos ho,<-hr];unfold Kx.aF;rfl);rw [hr] at hn hrf;have hset:=af (hset (r - 1));have hwr:IntKind.i64.wrap (r - 1)=r - 1:=by rw [IntKind.wrap_i64];omega
      have PW:(fo:Int)<(k.ag.length:Int):=by have:=fJ.o;omega
      obtain ⟨W5,AU⟩:=XP (v11.setCell ⟨gi,fo*3+2,none⟩ (I_ (r - 1)));have X1w:=af (AU ▸ X1.o.other (X1.o.ne hgk (by decide)) (fo*3+2) (I_ (r - 1)));have XGw:=af (AU ▸ XG.o.other (XG.o.ne hgk (by decide)) (fo*3+2) (I_ (r - 1)));have HOw:=af (show KO W5 base _ _ _ _ ⟨k.mem,I1,k.ah,k.cache⟩ by rw [HI2.o,<-AU];exact hset.o);have BBw:=af (show Below base w W5 from AU ▸ BB.o.setCell (p:=⟨gi,fo*3+2,none⟩) hbg (I_ (r - 1)));clear hset hr hn ho hgk hbg aag hfo;go_wp2_with fail;go_meet;exact ⟨rfl,X1w.o,XGw.o,HOw.o,BBw.o⟩
     have HI2:=af (show I1=k.ag by rw [<-HI1.o,if_neg ho]);have hoF:decide (old≥0)=false:=by simpa using ho
     go_wp2_with fail;go_meet;exact ⟨rfl,X1.o,XG.o,by rw [HI2.o];exact HO.o,BB.o⟩
    case rest =>
     obtain ⟨rfl,X1',XG',HO',BB'⟩:=hcut;clear p0 p1 p2 p3 c0 X1 XG HO BB B1 E11 q1;have c0:=X1'.o.c7;go_wp2_with fail;clear c0;refine (HE.o wc um _ uc b off cap XG'.o).mono ?_;rintro en v12 ⟨rfl,hb⟩;have Zw:=af (show base<=wc.heap.size from A1 MI.o BB'.o.size);have X2:=af (X1'.o.below hb);have XG2:=af (XG'.o.below hb);have HO2:=af (HO'.o.below hb);have BB2:=af (BB'.o.trans (hb.mono Zw.o));clear hb X1' XG' HO' BB';obtain ⟨b',cap',ev,hbb,hblt,⟨cs,hcs⟩,⟨z,hz⟩,hfz,hset⟩:=HO2.o.dE (e:=e) (by show e<k.ah.length;have:=H3.o;have:=He.o;omega);change Value.slice _ k.ah.length _=A0 _ k.ah.length _ at ev;obtain ⟨⟨rfl,rfl,_⟩,_,rfl⟩:=Zb ev;clear ev;rw [A2]
     obtain ⟨W6,MF⟩:=XP (v12.setCell ⟨b,e*2+1,none⟩ (I_ ca));have X1:=af (MF ▸ X2.o.other (X2.o.ne hcs (by decide)) (e*2+1) (I_ ca));have XG:=af (MF ▸ XG2.o.other (XG2.o.ne hcs (by decide)) (e*2+1) (I_ ca));have HO:=af (show KO W6 base _ _ _ _ ⟨k.mem,I1,Kx.dE k.ah e ca,k.cache⟩ from MF ▸ hset ca);have BB:=af (show Below base w W6 from MF ▸ BB2.o.setCell (p:=⟨b,e*2+1,none⟩) hbb (I_ ca));obtain ⟨I2,hI2⟩:∃ I2,(if 0<=ca then Kx.aF I1 ca.toNat 1 else I1)=I2:=⟨_,rfl⟩;rw [hI2] at HF;have HI2:=af hI2;clear hset hcs hbb hblt X2 XG2 HO2 BB2 hI2 Zw;obtain ⟨p0,p1,p2,p3⟩:=XG.o.c4;have c0:=X1.o.c7;go_upto_if 68 with fail
     go_cut [3] from 4 (fun s3 wx=>s3=I_ ca/\TI (BX wx w.heap.size 168 [.pointer (some ⟨G,0,none⟩),I_ bQ,I_ e,I_ ca,I_ cb,I_ cc,.string bg])/\TI (BX wx G 28 [um,A0 (some ⟨gi,0,none⟩) k.ag.length ci,A0 (some ⟨b,0,none⟩) k.ah.length cap,uc])/\TI (KO wx base um (A0 (some ⟨gi,0,none⟩) k.ag.length ci) (A0 (some ⟨b,0,none⟩) k.ah.length cap) uc ⟨k.mem,I2,Kx.dE k.ah e ca,k.cache⟩)/\TI (Below base w wx))
     case first =>
      by_cases ho:0<=ca
      ·obtain ⟨fo,rfl⟩:=A3 ho;have hfo:fo<12:=by have:=Z5.o;omega
       obtain ⟨g',c',ev,hbg,aag,⟨Jq,hgk⟩,_,hfz,hrf,hset⟩:=HO.o.aF (f:=fo) (by show fo<I1.length;rw [HIl.o,fJ.o];exact hfo);change Value.slice _ _ _=Value.slice _ I1.length _ at ev;obtain ⟨⟨rfl,_⟩,_,rfl⟩:=Zb ev;clear ev;have hn:=HNI.o fo;change W6.cell? _=some (I_ (Kx.inf I1 fo).refs) at hrf;obtain ⟨r,hr⟩:=XP ((Kx.inf I1 fo).refs);have HI3:=af (show I2=I1.set fo { Kx.inf I1 fo with refs:=r+1 } by rw [<-HI2.o,if_pos ho,<-hr];unfold Kx.aF;rfl);rw [hr] at hn hrf;have hset:=af (hset (r+1));have hwr:IntKind.i64.wrap (r+1)=r+1:=by rw [IntKind.wrap_i64];omega
       have PW:(fo:Int)<(k.ag.length:Int):=by have:=fJ.o;omega
       obtain ⟨W7,Iq⟩:=XP (W6.setCell ⟨gi,fo*3+2,none⟩ (I_ (r+1)));have X1w:=af (Iq ▸ X1.o.other (X1.o.ne hgk (by decide)) (fo*3+2) (I_ (r+1)));have XGw:=af (Iq ▸ XG.o.other (XG.o.ne hgk (by decide)) (fo*3+2) (I_ (r+1)));have HOw:=af (show KO W7 base _ _ _ _ ⟨k.mem,I2,Kx.dE k.ah e fo,k.cache⟩ by rw [HI3.o,<-Iq];exact hset.o);have BBw:=af (show Below base w W7 from Iq ▸ BB.o.setCell (p:=⟨gi,fo*3+2,none⟩) hbg (I_ (r+1)));clear hset hr hn ho hgk hbg aag hfo;go_wp2_with fail;go_meet;exact ⟨rfl,X1w.o,XGw.o,HOw.o,BBw.o⟩
      have HI3:=af (show I2=I1 by rw [<-HI2.o,if_neg ho]);have hoF:decide (ca≥0)=false:=by simpa using ho
      go_wp2_with fail;go_meet;exact ⟨rfl,X1.o,XG.o,by rw [HI3.o];exact HO.o,BB.o⟩
     case rest =>
      obtain ⟨rfl,X1',XG',HO',BB'⟩:=hcut;clear p0 p1 p2 p3 c0 X1 XG HO BB;obtain ⟨d2,hd2⟩:=XP wc.drew;have D2:Below wc.heap.size wc d2:=hd2 ▸ Below.bz fZ;have Hd2:=af hd2;have Zw:=af (show base<=wc.heap.size from A1 MI.o BB'.o.size);have X1:=af (X1'.o.below D2);have XG:=af (XG'.o.below D2);have HO:=af (HO'.o.below D2);have BB:=af (BB'.o.trans (D2.mono Zw.o));have Z2:=af (A1 Zw.o D2.size);have K12:=af (show ∀ W,Below d2.heap.size d2 W->((fun W:World=>W.cell? ⟨w.heap.size,0,none⟩=some (.pointer (some ⟨G,0,none⟩))/\W.cell? ⟨w.heap.size,2,none⟩=some (I_ e)/\W.cell? ⟨G,3,none⟩=some uc)) W from fun W hb=>⟨(X1.o.below hb).cell 0,(X1.o.below hb).cell 2,(XG.o.below hb).cell 3⟩)
      have HDr:=af (abG k.cache e uc d2 HO.o.c.rs QY.o);clear hd2 D2 X1' XG' HO' BB' Zw;go_wp2_with fail;refine afY (xs:=[13]) K12 (by rw [Hd2.o];exact fZ) fun hHeld=>?_
      rw [Hd2.o];rw [Hd2.o] at hHeld;refine tL 0 ?_;refine tL 1 ?_;refine tL 2 ?_;refine tL 3 ?_;refine tL 4 ?_;refine tL 5 ?_;refine tL 6 ?_;refine tL 7 ?_;refine tL 8 ?_;refine tL 9 ?_;refine aho 10 fun K hK=>?_;go_simp;go_at_call 269;refine HDr.o.mono ?_;rintro en v13 ⟨u8,rfl,xE,hb8⟩;obtain ⟨a8,c8,rfl,_,_⟩:=RS.val xE.rs;have Ot:=af xE;have Hb8:=af hb8;clear xE hb8;refine afX hK (K12.o _ Hb8.o) fun hHeld=>?_
      clear hK K;refine tP 11 ?_;refine tP 12 ?_;have XG8:=af (XG.o.below Hb8.o);have p3:=XG8.o.cell 3;have f3:=XG8.o.frozen 3;refine ahp 13 fun K hK=>?_;go_simp;refine hK.out _ _ ?_;clear hK K;refine nL ?_;refine gY (by kernel_rfl) ?_ _;have XGf:=af (XG8.o.set 3 (A0 a8 (fP k.cache e).length c8));have HOf:=af ((HO.o.below Hb8.o).ac_ XG8.o aJ 3 (A0 a8 (fP k.cache e).length c8) (Ot.o.mono Z2.o));have BBf:=af ((BB.o.trans (Hb8.o.mono Z2.o)).setCell (p:=⟨G,3,none⟩) HbG.o (A0 a8 (fP k.cache e).length c8));clear p3 f3 K12 hHeld;go_wp2_with fail;go_ret;exact ab1 HF.o BBf.o XGf.o HOf.o
end Go.Proofs.YthcmmoibpgcgaaaGreatDoor
