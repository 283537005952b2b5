/- KJ21, KJ22, joined. -/
import Derived.Test.YthcmmoibpgcgaaaGreatDoorKJ20
set_option maxHeartbeats 4000000
set_option maxRecDepth 100000
set_option linter.all false
open Nat renaming le_trans->A1,zero_add->A2
open Go.Value renaming slice->A0
open Go.Proofs.Tryz
namespace Go.Proofs.YthcmmoibpgcgaaaGreatDoor
open Go.RowKit Kx
variable {k:Kx.Kernel}{c:Kx.Call}{base:Nat}{w1 w2:World}
theorem acZ (k:Kx.Kernel) (c:Kx.Call) (e base G:Nat) (um ui ue uc:Value) (w:World) (hO:KO w base um ui ue uc k) (hG:BX w G 28 [um,ui,ue,uc]) (hbase:base<=w.heap.size) (Y0:base<=G) (hok:az k=true) (hs:iQ k) (hce:c.env=e) (he:e<3) (hnm:c.name.size<=9223372036854775807) (f:Nat) (hf:f<12) (hca:c.a=f) (hk0:(Kx.inf k.ag f).kind≠0) (wR:jQ k e (Kx.inf k.ag f).guard=true) (hkd:c.kind=6) (hcc:c.c<=9223372036854775807) :
  Calls prog 215 #[dO G c] w (aa_ base w G (Kx.lQ k c)):=by
 obtain ⟨bQ,JF,ca,cb,cc,bg⟩:=c;simp only at hce hnm hca hkd hcc;subst hce;obtain ⟨hmo,jI,h12,hco,h3,hro⟩:=aI hok;obtain ⟨w1,hw1,X1,XG,B1,s1⟩:=XF hG bQ e ca cb cc bg;have HO:=af (hO.below B1.o);have MI:=af (show base<=w.heap.size from hbase);have kG:=af hmo;have nM:=af jI;have fJ:=af h12;have H3:=af h3;have bF:=af hok;have Hs:=af hs;have HbG:=af Y0;have QY:=af hco;have mW:=af hro;have He:=af he;have Hnm:=af hnm;have S1:=af s1;have HR:=af (fun W=>oM bg W hnm);have HM:=af (fun (g:Kx.Str) (W:World) (um ui ue uc:Value) (hX:BX W G 28 [um,ui,ue,uc]) (hK:KO W base um ui ue uc k)=>zn k ⟨bQ,e,ca,cb,cc,bg⟩ e g G um ui ue uc W hX hK.rk.e rfl (by rw [h3];exact he))
 have HE:=af (fun (W:World) (um ui uc:Value) (b off cap:Nat) (hX:BX W G 28 [um,ui,A0 (some ⟨b,off,none⟩) k.ah.length cap,uc])=>wo k ⟨bQ,e,ca,cb,cc,bg⟩ e G b off cap um ui uc W hX rfl (by rw [h3];exact he))
 have p0:=XG.o.c4;have c0:=X1.o.c7;clear hO hG hmo jI h12 hco h3 hok hs Y0 hbase hro he hnm s1;unfold dO at HM HE ⊢;subst hca hkd;have hfl:f<k.ag.length:=by rw [fJ.o];exact hf
 have wJ:(f:Int)<(k.ag.length:Int):=by omega
 obtain ⟨gi,ci,rfl,aaT,aa2⟩:=HO.o.i.shape (by rw [fJ.o];decide);obtain ⟨_,_,_,ev,_,d0,_,_⟩:=bV.at HO.o.rk.i hfl;obtain ⟨⟨rfl,rfl,_⟩,_,rfl⟩:=Zb ev;clear ev;rw [A2] at d0;have Hf:=af hf;obtain ⟨r,hr⟩:=XP (Kx.lQ k ⟨6,e,(f:Int),cb,cc,bg⟩);have HS:=af (ade k ⟨6,e,(f:Int),cb,cc,bg⟩ e base G um _ ue uc w1 HO.o XG.o (A1 MI.o B1.o.size) HbG.o bF.o Hs.o rfl He.o Hnm.o f hf rfl hk0 wR hcc);rw [hr] at HS ⊢;unfold dO at HS;clear hfl wR hk0 aaT aa2 hf hcc hr;go_enter func215,ntmps215;go_wp2_with fail;refine HS.o.mono ?_;rintro en w7 ⟨rfl,hb7,hd7⟩;have HB7:=af hb7;have HD7:=af hd7;clear hb7 hd7 d0 p0 c0;go_wp2_with fail;go_ret;exact ⟨rfl,(B1.o.mono MI.o).trans HB7.o,HD7.o⟩
theorem acu (k:Kx.Kernel) (c:Kx.Call) (e base G:Nat) (um ui ue uc:Value) (w:World) (hO:KO w base um ui ue uc k) (hG:BX w G 28 [um,ui,ue,uc]) (hbase:base<=w.heap.size) (Y0:base<=G) (hok:az k=true) (hs:iQ k) (hce:c.env=e) (he:e<3) (hnm:c.name.size<=9223372036854775807) (f:Nat) (hf:f<12) (hca:c.a=f) (hk0:(Kx.inf k.ag f).kind≠0) (wR:jQ k e (Kx.inf k.ag f).guard=true) (hcc:c.c<=9223372036854775807) (hkd:c.kind=2\/c.kind=3\/c.kind=4\/c.kind=5\/c.kind=6) (hcb:c.kind=4->aX c.b=true) :
  Calls prog 215 #[dO G c] w (aa_ base w G (qm k c)):=by
 rcases hkd with h | h | h | h | h
 ·rw [show qm k c=Kx.give k c by simp [qm,h]];exact acT k c e base G um ui ue uc w hO hG hbase Y0 hok hs hce he hnm f hf hca hk0 wR h
 ·rw [show qm k c=oP k c by simp [qm,h]];exact acU k c e base G um ui ue uc w hO hG hbase Y0 hok hs hce he hnm f hf hca hk0 wR h
 ·rw [show qm k c=lu k c by simp [qm,h]];exact ac3 k c e base G um ui ue uc w hO hG hbase Y0 hok hs hce he hnm f hf hca hk0 wR h (dF.1 (hcb h))
 ·rw [show qm k c=lu k c by simp [qm,h]];exact acE k c e base G um ui ue uc w hO hG hbase Y0 hok hs hce he hnm f hf hca hk0 wR h
 rw [show qm k c=Kx.lQ k c by simp [qm,h]];exact acZ k c e base G um ui ue uc w hO hG hbase Y0 hok hs hce he hnm f hf hca hk0 wR h hcc
theorem ad5 (hkd:c.kind=2\/c.kind=3\/c.kind=4\/c.kind=5\/c.kind=6) (h:(!Kx.bK c.a 0 11||(Kx.inf k.ag c.a.toNat).kind==0||(c.kind==4&&!aX c.b))=true):qm k c=(k,0,3):=by
 have hF:∀ x,c.kind≠4->aO k c x=3:=fun x h4=>by
  rw [show (c.kind==4)=false by simpa using h4,Bool.false_and,Bool.or_false] at h;unfold aO;rw [if_pos h]
 rcases hkd with g | g | g | g | g
 ·simp [qm,g,Kx.give,hF]
 ·simp [qm,g,oP,hF]
 ·rw [show qm k c=lu k c by simp [qm,g]];unfold lu;rw [if_pos h]
 ·rw [show qm k c=lu k c by simp [qm,g]];unfold lu;rw [if_pos h]
 simp [qm,g,Kx.lQ,hF]
theorem ad6 (hkd:c.kind=2\/c.kind=3\/c.kind=4\/c.kind=5\/c.kind=6) (h:(!Kx.bK c.a 0 11||(Kx.inf k.ag c.a.toNat).kind==0||(c.kind==4&&!aX c.b))=false) (hm:jQ k c.env (Kx.inf k.ag c.a.toNat).guard=false):qm k c=(k,0,1):=by
 have hF:∀ x,aO k c x=1:=fun x=>by
  rw [Bool.or_eq_false_iff] at h;unfold aO;rw [if_neg (by rw [h.1];decide),hm];rfl
 rcases hkd with g | g | g | g | g
 ·simp [qm,g,Kx.give,hF]
 ·simp [qm,g,oP,hF]
 ·rw [show qm k c=lu k c by simp [qm,g]];unfold lu;rw [if_neg (by rw [h];decide),hm];rfl
 ·rw [show qm k c=lu k c by simp [qm,g]];unfold lu;rw [if_neg (by rw [h];decide),hm];rfl
 simp [qm,g,Kx.lQ,hF]
theorem ac6 {G:Nat} {w:World} {r:Kx.Out} (hz:r.2.1=0) (hB:Below base w w1) (hb:Below base w1 w2) (hd:r.2.2=0->r.2.1=0/\∃ um ui ue uc,BX w2 G 28 [um,ui,ue,uc]/\KO w2 base um ui ue uc r.1):acr base w G r (.returned (.tuple #[I_ 0,I_ r.2.2])) w2:=⟨by rw [hz],hB.trans hb,fun h=>(hd h).2⟩
theorem acS {G:Nat} {w:World} {r:Kx.Out} (hB:Below base w w1) (hb:Below base w1 w2) (hd:r.2.2=0->∃ um ui ue uc,BX w2 G 28 [um,ui,ue,uc]/\KO w2 base um ui ue uc r.1):acr base w G r (.returned (.tuple #[I_ r.2.1,I_ r.2.2])) w2:=⟨rfl,hB.trans hb,hd⟩
theorem adu (k:Kx.Kernel) (c:Kx.Call):(Kx.give k c).2.1=0:=by unfold Kx.give;repeat' (first | rfl | split)
theorem adv (k:Kx.Kernel) (c:Kx.Call):(oP k c).2.1=0:=by unfold oP;repeat' (first | rfl | split)
theorem adM (k:Kx.Kernel) (c:Kx.Call):(lu k c).2.1=0:=by unfold lu;repeat' (first | rfl | split)
theorem adO (k:Kx.Kernel) (c:Kx.Call):(Kx.lQ k c).2.1=0:=by unfold Kx.lQ;repeat' (first | rfl | split)
theorem adw (k:Kx.Kernel) (c:Kx.Call):(mM k c).2.1=0:=by unfold mM;repeat' (first | rfl | split)
theorem abI (k:Kx.Kernel) (c:Kx.Call):(f_ k c).2.1=0:=by unfold f_;repeat' (first | rfl | split)
theorem ad8 (hkd:c.kind=2\/c.kind=3\/c.kind=4\/c.kind=5\/c.kind=6):(qm k c).2.1=0:=by
 rcases hkd with g | g | g | g | g <;> simp [qm,g,adu,adv,adM,adO]
theorem adp (k:Kx.Kernel) (c:Kx.Call) (e base G:Nat) (um ui ue uc:Value) (w:World) (hO:KO w base um ui ue uc k) (hG:BX w G 28 [um,ui,ue,uc]) (hbase:base<=w.heap.size) (Y0:base<=G) (hok:az k=true) (hs:iQ k) (hce:c.env=e) (he:e<3) (hnm:c.name.size<=9223372036854775807) (hcc:c.c<=9223372036854775807) :
  Calls prog 166 #[dO G c] w (acr base w G (qm k c)):=by
 obtain ⟨bQ,JF,ca,cb,cc,bg⟩:=c;simp only at hce hnm hcc;subst hce;obtain ⟨hmo,jI,h12,hco,h3,hro⟩:=aI hok;obtain ⟨w1,hw1,X1,XG,B1,s1⟩:=XF hG bQ e ca cb cc bg;have HO:=af (hO.below B1.o);have MI:=af (show base<=w.heap.size from hbase);have kG:=af hmo;have nM:=af jI;have fJ:=af h12;have H3:=af h3;have bF:=af hok;have Hs:=af hs;have HbG:=af Y0;have QY:=af hco;have mW:=af hro;have He:=af he;have Hnm:=af hnm;have S1:=af s1;have HR:=af (fun W=>oM bg W hnm);have HM:=af (fun (g:Kx.Str) (W:World) (um ui ue uc:Value) (hX:BX W G 28 [um,ui,ue,uc]) (hK:KO W base um ui ue uc k)=>zn k ⟨bQ,e,ca,cb,cc,bg⟩ e g G um ui ue uc W hX hK.rk.e rfl (by rw [h3];exact he))
 have HE:=af (fun (W:World) (um ui uc:Value) (b off cap:Nat) (hX:BX W G 28 [um,ui,A0 (some ⟨b,off,none⟩) k.ah.length cap,uc])=>wo k ⟨bQ,e,ca,cb,cc,bg⟩ e G b off cap um ui uc W hX rfl (by rw [h3];exact he))
 have p0:=XG.o.c4;have c0:=X1.o.c7;clear hO hG hmo jI h12 hco h3 hok hs Y0 hbase hro he hnm s1;unfold dO at HM HE ⊢;have Og:=af hcc;have HB:=af (show Below base w w1 from B1.o.mono MI.o);have Hb1:=af (show base<=w1.heap.size from A1 MI.o B1.o.size);clear hcc
 by_cases k1:bQ=1
 ·subst k1;obtain ⟨r,hr⟩:=XP (qm k ⟨1,e,ca,cb,cc,bg⟩);have HC:=af (acQ k ⟨1,e,ca,cb,cc,bg⟩ e base G um ui ue uc w1 HO.o XG.o Hb1.o HbG.o bF.o Hs.o rfl He.o Hnm.o);rw [show Kx.take k ⟨1,e,ca,cb,cc,bg⟩=r from hr] at HC;rw [hr];unfold dO at HC;clear hr HM HE HR;go_enter func166,ntmps166;go_wp2_with fail;refine HC.o.mono ?_;rintro en w7 ⟨rfl,hb7,hd7⟩;have HB7:=af hb7;have HD7:=af hd7;clear hb7 hd7 HC p0 c0;go_wp2_with fail;go_ret2;exact acS HB.o HB7.o HD7.o
 by_cases k7:bQ=7
 ·subst k7;obtain ⟨r,hr⟩:=XP (qm k ⟨7,e,ca,cb,cc,bg⟩);have HC:=af (ac0 k ⟨7,e,ca,cb,cc,bg⟩ e base G um ui ue uc w1 HO.o XG.o Hb1.o HbG.o bF.o Hs.o rfl He.o Hnm.o);rw [show mM k ⟨7,e,ca,cb,cc,bg⟩=r from hr] at HC;have HZ:=af (show r.2.1=0 by rw [<-hr];exact adw k ⟨7,e,ca,cb,cc,bg⟩);rw [hr];unfold dO at HC;clear hr HM HE HR;go_enter func166,ntmps166;go_wp2_with fail;refine HC.o.mono ?_;rintro en w7 ⟨rfl,hb7,hd7⟩;have HB7:=af hb7;have HD7:=af hd7;clear hb7 hd7 HC p0 c0;go_wp2_with fail;go_ret2;exact ac6 HZ.o HB.o HB7.o HD7.o
 by_cases k8:bQ=8
 ·subst k8;obtain ⟨r,hr⟩:=XP (qm k ⟨8,e,ca,cb,cc,bg⟩);have HC:=af (acN k ⟨8,e,ca,cb,cc,bg⟩ e base G um ui ue uc w1 HO.o XG.o Hb1.o HbG.o bF.o Hs.o rfl He.o Hnm.o rfl);rw [show f_ k ⟨8,e,ca,cb,cc,bg⟩=r from hr] at HC;have HZ:=af (show r.2.1=0 by rw [<-hr];exact abI k ⟨8,e,ca,cb,cc,bg⟩);rw [hr];unfold dO at HC;clear hr HM HE HR;go_enter func166,ntmps166;go_wp2_with fail;refine HC.o.mono ?_;rintro en w7 ⟨rfl,hb7,hd7⟩;have HB7:=af hb7;have HD7:=af hd7;clear hb7 hd7 HC p0 c0;go_wp2_with fail;go_ret2;exact ac6 HZ.o HB.o HB7.o HD7.o
 by_cases k9:bQ=9
 ·subst k9;obtain ⟨r,hr⟩:=XP (qm k ⟨9,e,ca,cb,cc,bg⟩);have HC:=af (acA k ⟨9,e,ca,cb,cc,bg⟩ e base G um ui ue uc w1 HO.o XG.o Hb1.o HbG.o bF.o Hs.o rfl He.o Hnm.o rfl);rw [show f_ k ⟨9,e,ca,cb,cc,bg⟩=r from hr] at HC;have HZ:=af (show r.2.1=0 by rw [<-hr];exact abI k ⟨9,e,ca,cb,cc,bg⟩);rw [hr];unfold dO at HC;clear hr HM HE HR;go_enter func166,ntmps166;go_wp2_with fail;refine HC.o.mono ?_;rintro en w7 ⟨rfl,hb7,hd7⟩;have HB7:=af hb7;have HD7:=af hd7;clear hb7 hd7 HC p0 c0;go_wp2_with fail;go_ret2;exact ac6 HZ.o HB.o HB7.o HD7.o
 by_cases k10:bQ=10
 ·subst k10;obtain ⟨r,hr⟩:=XP (qm k ⟨10,e,ca,cb,cc,bg⟩);have HC:=af (ac1 k ⟨10,e,ca,cb,cc,bg⟩ e base G um ui ue uc w1 HO.o XG.o Hb1.o HbG.o bF.o Hs.o rfl He.o Hnm.o (.inl rfl));rw [show Kx.access k ⟨10,e,ca,cb,cc,bg⟩=r from hr] at HC;rw [hr];unfold dO at HC;clear hr HM HE HR;go_enter func166,ntmps166;go_wp2_with fail;refine HC.o.mono ?_;rintro en w7 ⟨rfl,hb7,hd7⟩;have HB7:=af hb7;have HD7:=af hd7;clear hb7 hd7 HC p0 c0;go_wp2_with fail;go_ret2;exact acS HB.o HB7.o HD7.o
 by_cases k11:bQ=11
 ·subst k11;obtain ⟨r,hr⟩:=XP (qm k ⟨11,e,ca,cb,cc,bg⟩);have HC:=af (ac1 k ⟨11,e,ca,cb,cc,bg⟩ e base G um ui ue uc w1 HO.o XG.o Hb1.o HbG.o bF.o Hs.o rfl He.o Hnm.o (.inr rfl));rw [show Kx.access k ⟨11,e,ca,cb,cc,bg⟩=r from hr] at HC;rw [hr];unfold dO at HC;clear hr HM HE HR;go_enter func166,ntmps166;go_wp2_with fail;refine HC.o.mono ?_;rintro en w7 ⟨rfl,hb7,hd7⟩;have HB7:=af hb7;have HD7:=af hd7;clear hb7 hd7 HC p0 c0;go_wp2_with fail;go_ret2;exact acS HB.o HB7.o HD7.o
 by_cases kf:bQ=2\/bQ=3\/bQ=4\/bQ=5\/bQ=6
 ·clear k1 k7 k8 k9 k10 k11;obtain ⟨gi,ci,rfl,aaT,aa2⟩:=HO.o.i.shape (by rw [fJ.o];decide);clear aaT aa2;have Hkf:=af (show (⟨bQ,e,ca,cb,cc,bg⟩:Kx.Call).kind=2\/(⟨bQ,e,ca,cb,cc,bg⟩:Kx.Call).kind=3\/(⟨bQ,e,ca,cb,cc,bg⟩:Kx.Call).kind=4\/(⟨bQ,e,ca,cb,cc,bg⟩:Kx.Call).kind=5\/(⟨bQ,e,ca,cb,cc,bg⟩:Kx.Call).kind=6 from kf);have acV:=af (fun h=>ad5 (k:=k) (c:=⟨bQ,e,ca,cb,cc,bg⟩) Hkf.o h)
  cases hin:Kx.bK ca 0 11 with
  | false =>
   have jR:=af hin;have HF:=af (acV.o (by simp [hin]));clear hin HM HE HR acV;go_enter func166,ntmps166;rcases kf with rfl | rfl | rfl | rfl | rfl
   all_goals
    go_wp2_with fail;go_quiet (first | (go_at_call 63;exact Calls.quiet_of_same ((jO _ _).mono fun _ _ ⟨he,hw⟩=>⟨by rw [he,jR.o],hw.symm⟩)) | (go_at_call 66;exact Calls.quiet_of_same ((j_ _ _).mono fun _ _ ⟨he,hw⟩=>⟨by rw [he,Htb.o],hw.symm⟩)))
    go_wp2_with fail;go_ret2;exact abe HF.o (by decide) (abf HB.o _)
  | true =>
   have jR:=af hin;obtain ⟨ha0,ha2⟩:=Kx.ay.1 hin;obtain ⟨f,rfl⟩:=Int.eq_ofNat_of_zero_le ha0;have hfl:f<k.ag.length:=by rw [fJ.o];omega
   have wJ:(f:Int)<(k.ag.length:Int):=by omega
   have Hf:=af (show f<12 by omega);obtain ⟨_,_,_,ev,hgl,d0,d1,_⟩:=bV.at HO.o.rk.i hfl;obtain ⟨⟨rfl,rfl,_⟩,_,rfl⟩:=Zb ev;clear ev;rw [A2] at d0 d1;obtain ⟨kd,hkd⟩:=XP ((Kx.inf k.ag f).kind);obtain ⟨gd,hgd⟩:=XP ((Kx.inf k.ag f).guard);rw [hkd] at d0;rw [hgd] at d1;have Ob:=af hkd;have Hgd:=af hgd;have Hgl:=af hgl;have Hd1:=af d1;clear hin ha0 ha2 hfl hkd hgd hgl d1
   by_cases h0:kd=0
   ·subst h0;have HF:=af (acV.o (by rw [show (⟨bQ,e,(f:Int),cb,cc,bg⟩:Kx.Call).a.toNat=f from rfl,Ob.o];simp));clear HM HE HR acV;go_enter func166,ntmps166;rcases kf with rfl | rfl | rfl | rfl | rfl
    all_goals
     go_wp2_with fail;go_quiet (first | (go_at_call 63;exact Calls.quiet_of_same ((jO _ _).mono fun _ _ ⟨he,hw⟩=>⟨by rw [he,jR.o],hw.symm⟩)) | (go_at_call 66;exact Calls.quiet_of_same ((j_ _ _).mono fun _ _ ⟨he,hw⟩=>⟨by rw [he,Htb.o],hw.symm⟩)))
     go_wp2_with fail;go_ret2;exact abe HF.o (by decide) (abf HB.o _)
   have UI:(kd==0)=false:=by simpa using h0
   by_cases h4:bQ=4/\aX cb=false
   ·obtain ⟨rfl,htb⟩:=h4;have Htb:=af htb;have HF:=af (acV.o (by rw [htb];simp));clear HM HE HR acV kf htb h0;go_enter func166,ntmps166;go_wp2_with fail;go_quiet (first | (go_at_call 63;exact Calls.quiet_of_same ((jO _ _).mono fun _ _ ⟨he,hw⟩=>⟨by rw [he,jR.o],hw.symm⟩)) | (go_at_call 66;exact Calls.quiet_of_same ((j_ _ _).mono fun _ _ ⟨he,hw⟩=>⟨by rw [he,Htb.o],hw.symm⟩)))
    go_wp2_with fail;go_ret2;exact abe HF.o (by decide) (abf HB.o _)
   have UL:=af (show bQ=4->aX cb=true from fun h=>by
    cases ht:aX cb with
    | true=>rfl
    | false=>exact absurd ⟨h,ht⟩ h4)
   have HBf:=af (show (!Kx.bK (f:Int) 0 11||(Kx.inf k.ag f).kind==0||(bQ==4&&!aX cb))=false from by
    rw [jR.o,Ob.o,UI]
    by_cases h:bQ=4
    ·rw [UL.o h];simp
    rw [show (bQ==4)=false by simpa using h];rfl)
   have ad9:=af (fun h=>ad6 (k:=k) (c:=⟨bQ,e,(f:Int),cb,cc,bg⟩) Hkf.o HBf.o h)
   have HZ:=af (ad8 (k:=k) Hkf.o);have Ru:=af (fun W (um ui ue uc:Value) (hK:KO W base um ui ue uc k) (hX:BX W G 28 [um,ui,ue,uc]) (hb:base<=W.heap.size) (hm:jQ k e gd=true)=>acu k ⟨bQ,e,(f:Int),cb,cc,bg⟩ e base G um ui ue uc W hK hX hb HbG.o bF.o Hs.o rfl He.o Hnm.o f Hf.o rfl (by rw [Ob.o];exact h0) (by rw [Hgd.o];exact hm) Og.o Hkf.o UL.o)
   obtain ⟨r,hr⟩:=XP (qm k ⟨bQ,e,(f:Int),cb,cc,bg⟩);rw [hr] at ad9 HZ Ru;rw [hr];unfold dO at Ru;clear hr h4 h0 HE HR acV HBf;go_enter func166,ntmps166;obtain ⟨kk,hkk⟩:=XP bQ;have Hkk:=af hkk;clear hkk;rcases kf with rfl | rfl | rfl | rfl | rfl
   all_goals
    have Htb:=af UL.o;go_wp2_with fail;go_quiet (first | (go_at_call 63;exact Calls.quiet_of_same ((jO _ _).mono fun _ _ ⟨he,hw⟩=>⟨by rw [he,jR.o],hw.symm⟩)) | (go_at_call 66;exact Calls.quiet_of_same ((j_ _ _).mono fun _ _ ⟨he,hw⟩=>⟨by rw [he,Htb.o (by first | rfl | trivial)],hw.symm⟩)))
    go_wp2_with fail;generalize hd:World.drewN w1 _=d;have D:Below w1.heap.size w1 d:=hd ▸ abf fZ _;replace X1:=af (X1.o.below D);replace XG:=af (XG.o.below D);replace HO:=af (HO.o.below D);replace HB:=af (HB.o.trans (D.mono Hb1.o));have Dd:=af D;clear hd D d0 UI p0 c0;obtain ⟨d6,hd6⟩:=XP d.drew;have E6:=af (show Below d.heap.size d d6 from hd6 ▸ Below.bz fZ);have Hd6:=af hd6;clear hd6;replace X1:=af (X1.o.below E6.o);replace XG:=af (XG.o.below E6.o);replace HO:=af (HO.o.below E6.o);replace HB:=af (HB.o.trans (E6.o.mono (A1 Hb1.o Dd.o.size)));have X1k:=X1.o;rw [Hkk.o] at X1k;replace X1k:=af X1k
    have K11:=af (show ∀ W,Below d6.heap.size d6 W->((fun W:World=>W.cell? ⟨w.heap.size,0,none⟩=some (.pointer (some ⟨G,0,none⟩))/\W.cell? ⟨w.heap.size,1,none⟩=some (I_ kk)/\W.cell? ⟨w.heap.size,2,none⟩=some (I_ e)/\W.cell? ⟨w.heap.size,3,none⟩=some (I_ (f:Int))/\W.cell? ⟨w.heap.size,4,none⟩=some (I_ cb)/\W.cell? ⟨w.heap.size,5,none⟩=some (I_ cc)/\W.cell? ⟨w.heap.size,6,none⟩=some (.string bg)/\W.cell? ⟨G,1,none⟩=some (A0 (some ⟨gi,0,none⟩) k.ag.length ci)/\W.cell? ⟨gi,f*3+1,none⟩=some (.string gd))) W from fun W hb=>⟨(X1k.o.below hb).cell 0,(X1k.o.below hb).cell 1,(X1k.o.below hb).cell 2,(X1k.o.below hb).cell 3,(X1k.o.below hb).cell 4,(X1k.o.below hb).cell 5,(X1k.o.below hb).cell 6,(XG.o.below hb).cell 1,(((Dd.o.trans (E6.o.mono Dd.o.size)).trans (hb.mono (A1 Dd.o.size E6.o.size))).cell (p:=⟨gi,f*3+1,none⟩) Hgl.o).trans Hd1.o⟩)
    have Hb6:=af (show base<=d6.heap.size from A1 Hb1.o (A1 Dd.o.size E6.o.size));have HMc:=HM.o gd d6 _ _ _ _ XG.o HO.o;rw [Hkk.o] at HMc;replace HMc:=af HMc;clear HM;go_wp2_with fail;refine afY (xs:=[]) K11 (by rw [Hd6.o];exact fZ) fun hHeld=>?_
    rw [Hd6.o];rw [Hd6.o] at hHeld;refine tL 0 ?_;refine tL 1 ?_;refine tL 2 ?_;refine tL 3 ?_;refine tL 4 ?_;refine tL 5 ?_;refine tL 6 ?_;refine tL 7 ?_;refine tL 8 ?_;refine tL 9 ?_;refine tL 10 ?_;refine tL 11 ?_;refine aho 12 fun K hK=>?_;go_simp;go_at_call 214;refine HMc.o.mono ?_;rintro en v7 ⟨rfl,hb7⟩;have ZH:=af hb7;clear hb7;refine afX hK (K11.o _ ZH.o) fun hHeld=>?_
    clear hK K;refine tL 13 ?_;refine gY (by kernel_rfl) ?_ _;clear K11 hHeld X1k;obtain rfl:=Hkk.o;replace X1:=af (X1.o.below ZH.o);replace XG:=af (XG.o.below ZH.o);replace HO:=af (HO.o.below ZH.o);replace HB:=af (HB.o.trans (ZH.o.mono Hb6.o))
    cases wR:jQ k e gd with
    | false =>
     have HF:=af (ad9.o (by rw [show ((f:Int)).toNat=f from rfl,Hgd.o];exact wR));clear wR;go_wp2_with fail;go_ret2;exact abe HF.o (by decide) HB.o
    | true =>
     have HC:=af (Ru.o v7 _ _ _ _ HO.o XG.o (A1 Hb6.o ZH.o.size) wR);clear wR Ru ad9;have c0:=X1.o.c7;go_wp2_with fail;refine HC.o.mono ?_;rintro en w9 ⟨rfl,hb9,hd9⟩;have HB9:=af hb9;have HD9:=af hd9;clear hb9 hd9 HC c0;go_wp2_with fail;go_ret2;exact ac6 HZ.o HB.o HB9.o HD9.o
 have HF:=af (show qm k ⟨bQ,e,ca,cb,cc,bg⟩=(k,0,3) by unfold qm;simp only;rw [if_neg k1,if_neg (fun h=>kf (.inl h)),if_neg (fun h=>kf (.inr (.inl h))),if_neg (fun h=>h.elim (fun h=>kf (.inr (.inr (.inl h)))) (fun h=>kf (.inr (.inr (.inr (.inl h)))))),if_neg (fun h=>kf (.inr (.inr (.inr (.inr h))))),if_neg k7,if_neg (fun h=>h.elim k8 k9),if_neg (fun h=>h.elim k10 k11)])
 have n1:(bQ==1)=false:=by simpa using k1
 have n7:(bQ==7)=false:=by simpa using k7
 have n8:(bQ==8)=false:=by simpa using k8
 have n9:(bQ==9)=false:=by simpa using k9
 have n10:(bQ==10)=false:=by simpa using k10
 have n11:(bQ==11)=false:=by simpa using k11
 have n2:(bQ==2)=false:=by simpa using (fun h=>kf (.inl h))
 have n3:(bQ==3)=false:=by simpa using (fun h=>kf (.inr (.inl h)))
 have n4:(bQ==4)=false:=by simpa using (fun h=>kf (.inr (.inr (.inl h))))
 have n5:(bQ==5)=false:=by simpa using (fun h=>kf (.inr (.inr (.inr (.inl h)))))
 have n6:(bQ==6)=false:=by simpa using (fun h=>kf (.inr (.inr (.inr (.inr h)))))
 clear HM HE HR k1 k7 k8 k9 k10 k11 kf;go_enter func166,ntmps166;go_wp2_with fail;go_ret2;exact abe HF.o (by decide) HB.o
end Go.Proofs.YthcmmoibpgcgaaaGreatDoor
