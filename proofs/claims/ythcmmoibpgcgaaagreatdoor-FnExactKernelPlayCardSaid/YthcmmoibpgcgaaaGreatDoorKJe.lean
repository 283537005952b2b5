/- KJ17, KJ18, KJ19, joined. -/
import Derived.Test.YthcmmoibpgcgaaaGreatDoorKJc
set_option maxHeartbeats 4000000
set_option maxRecDepth 100000
set_option linter.all false
open Nat renaming le_trans->A1,zero_add->A2
open Go.Value renaming slice->A0
open Go.Proofs.Tryz
namespace Go.Proofs.YthcmmoibpgcgaaaGreatDoor
open Go.RowKit Kx
variable {l:List aG}
theorem ab2 {m:List (List Int)} {f kind:Int} {r:List Kx.Str} (h:(bW m&&Kx.bK f 0 11&&bC l&&aX kind&&aS r)=true):(Kx.pin m l f kind r).2=0\/(Kx.pin m l f kind r).2=1\/(Kx.pin m l f kind r).2=2:=by
 unfold Kx.pin;rw [h];simp only [Bool.not_true,Bool.false_eq_true,if_false];split
 ·exact .inr (.inl rfl)
 split
 ·exact .inr (.inr rfl)
 split
 ·exact .inl rfl
 exact .inr (.inl rfl)
theorem abv {m:List (List Int)} {f:Int} (h:(bW m&&Kx.bK f 0 11&&bC l)=true):(oL m l f).2=0\/(oL m l f).2=1\/(oL m l f).2=2:=by
 unfold oL;rw [h];simp only [Bool.not_true,Bool.false_eq_true,if_false];split
 ·exact .inr (.inl rfl)
 split
 ·exact .inl rfl
 exact .inr (.inr rfl)
def abM (k:Kx.Kernel) (l:List aG) (x:Int):Kx.Out:=if x=1 then (k,0,2) else if x=2 then (k,0,3) else ({ k with ag:=l },0,0)
theorem ada {base G:Nat} {w w':World} {r:Kx.Out} {k:Kx.Kernel} {x:Int} {um ui ue uc:Value} (h:r=abM k l x) (hx:x=0\/x=1\/x=2) (hb:Below base w w') (hX:BX w' G 28 [um,ui,ue,uc]) (hK:KO w' base um ui ue uc ⟨k.mem,l,k.ah,k.cache⟩):aa_ base w G r (.returned (I_ (if x=0 then 0 else if x=1 then 2 else 3))) w':=by
 rcases hx with rfl | rfl | rfl
 ·exact ab1 h hb hX hK
 ·exact aar h (by decide) hb
 exact aar h (by decide) hb
theorem ac3 (k:Kx.Kernel) (c:Kx.Call) (e base G:Nat) (um ui ue uc:Value) (w:World) (hO:KO w base um ui ue uc k) (hG:BX w G 28 [um,ui,ue,uc]) (hbase:base<=w.heap.size) (Y0:base<=G) (hok:az k=true) (hs:iQ k) (hce:c.env=e) (he:e<3) (hnm:c.name.size<=9223372036854775807) (f:Nat) (hf:f<12) (hca:c.a=f) (hk0:(Kx.inf k.ag f).kind≠0) (wR:jQ k e (Kx.inf k.ag f).guard=true) (hkd:c.kind=4) (hcb:c.b=2\/c.b=3) :
  Calls prog 215 #[dO G c] w (aa_ base w G (lu k c)):=by
 obtain ⟨bQ,JF,ca,cb,cc,bg⟩:=c;simp only at hce hnm hca hkd hcb;subst hce;obtain ⟨hmo,jI,h12,hco,h3,hro⟩:=aI hok;obtain ⟨w1,hw1,X1,XG,B1,s1⟩:=XF hG bQ e ca cb cc bg;have HO:=af (hO.below B1.o);have MI:=af (show base<=w.heap.size from hbase);have kG:=af hmo;have nM:=af jI;have fJ:=af h12;have H3:=af h3;have bF:=af hok;have Hs:=af hs;have HbG:=af Y0;have QY:=af hco;have mW:=af hro;have He:=af he;have Hnm:=af hnm;have S1:=af s1;have HR:=af (fun W=>oM bg W hnm);have HM:=af (fun (g:Kx.Str) (W:World) (um ui ue uc:Value) (hX:BX W G 28 [um,ui,ue,uc]) (hK:KO W base um ui ue uc k)=>zn k ⟨bQ,e,ca,cb,cc,bg⟩ e g G um ui ue uc W hX hK.rk.e rfl (by rw [h3];exact he))
 have HE:=af (fun (W:World) (um ui uc:Value) (b off cap:Nat) (hX:BX W G 28 [um,ui,A0 (some ⟨b,off,none⟩) k.ah.length cap,uc])=>wo k ⟨bQ,e,ca,cb,cc,bg⟩ e G b off cap um ui uc W hX rfl (by rw [h3];exact he))
 have p0:=XG.o.c4;have c0:=X1.o.c7;clear hO hG hmo jI h12 hco h3 hok hs Y0 hbase hro he hnm s1;unfold dO at HM HE ⊢;subst hca hkd;have hfl:f<k.ag.length:=by rw [fJ.o];exact hf
 have wJ:(f:Int)<(k.ag.length:Int):=by omega
 obtain ⟨gi,ci,rfl,aaT,aa2⟩:=HO.o.i.shape (by rw [fJ.o];decide);obtain ⟨_,_,_,ev,_,d0,_,_⟩:=bV.at HO.o.rk.i hfl;obtain ⟨⟨rfl,rfl,_⟩,_,rfl⟩:=Zb ev;clear ev;rw [A2] at d0;have Hf:=af hf;have hin:Kx.bK (f:Int) 0 11=true:=by rw [Kx.ay];omega
 have hkb:((Kx.inf k.ag f).kind==0)=false:=by simpa using hk0
 have htb:aX cb=true:=by rcases hcb with rfl | rfl <;> rfl
 have hel:e<k.ah.length:=by rw [H3.o];exact He.o
 obtain ⟨b,off,cap,u,rfl,hbl,q0,q1,hr⟩:=HO.o.rk.e.at hel;obtain ⟨ua,uc',rfl,_,_⟩:=RS.val hr;obtain ⟨l2,x2,hp⟩:∃ l2 x2,Kx.pin k.mem k.ag f cb (au k.ah e).aB=(l2,x2):=⟨_,_,rfl⟩;have HRO:=af (jW bF.o e He.o);have Hx:=af (show x2=0\/x2=1\/x2=2 by have:=ab2 (m:=k.mem) (l:=k.ag) (f:=f) (kind:=cb) (r:=(au k.ah e).aB) (by rw [kG.o,hin,nM.o,htb,HRO.o];rfl);rw [hp] at this;exact this);have HF:=af (show lu k ⟨4,e,(f:Int),cb,cc,bg⟩=abM k l2 x2 by
  have hp2:Kx.pinned k ⟨4,e,(f:Int),cb,cc,bg⟩=(l2,x2):=hp;unfold lu;rw [hp2];simp only;rw [if_neg (by simp [hin,htb,hkb]),if_neg (by rw [show ((f:Int)).toNat=f from rfl,wR];decide)];rfl)
 have HSe:=af (Hs.o.2 e hel);have UL:=af hcb;have Hq:=af q0;have ND:=af hbl;have Hr:=af hr;have HP:=af (fun W (hb:Below w1.heap.size w1 W)=>aa3 k.mem k.ag f cb (au k.ah e).aB um _ _ W (HO.o.below hb).rk.m kG.o (HO.o.below hb).rk.i Hs.o.1 nM.o fJ.o (RS.below hr hb) HRO.o HSe.o hf hcb)
 rw [hp] at HP;clear hfl wR hk0 aaT aa2 hf hin hkb htb hel hbl q0 q1 hr hp hcb;go_enter func215,ntmps215;obtain ⟨d,hd⟩:=XP w1.drew;have Hd:=af hd;have D:=af (show Below w1.heap.size w1 d from hd ▸ Below.bz fZ);have DW:=af (fun (W:World) (hb:Below d.heap.size d W)=>(D.o.trans (hb.mono D.o.size):Below w1.heap.size w1 W))
 have K4:=af (show ∀ W,Below d.heap.size d W->((fun W:World=>W.cell? ⟨w.heap.size,0,none⟩=some (.pointer (some ⟨G,0,none⟩))/\W.cell? ⟨w.heap.size,1,none⟩=some (I_ 4)/\W.cell? ⟨w.heap.size,2,none⟩=some (I_ e)/\W.cell? ⟨w.heap.size,3,none⟩=some (I_ (f:Int))/\W.cell? ⟨w.heap.size,4,none⟩=some (I_ cb)/\W.cell? ⟨w.heap.size,5,none⟩=some (I_ cc)/\W.cell? ⟨w.heap.size,6,none⟩=some (.string bg)/\W.cell? ⟨G,0,none⟩=some um/\W.cell? ⟨G,1,none⟩=some (A0 (some ⟨gi,0,none⟩) k.ag.length ci)/\W.cell? ⟨b,off+e*2,none⟩=some (A0 ua (au k.ah e).aB.length uc'))) W from fun W hb=>⟨(X1.o.below (DW.o W hb)).cell 0,(X1.o.below (DW.o W hb)).cell 1,(X1.o.below (DW.o W hb)).cell 2,(X1.o.below (DW.o W hb)).cell 3,(X1.o.below (DW.o W hb)).cell 4,(X1.o.below (DW.o W hb)).cell 5,(X1.o.below (DW.o W hb)).cell 6,(XG.o.below (DW.o W hb)).cell 0,(XG.o.below (DW.o W hb)).cell 1,((DW.o W hb).cell (p:=⟨b,off+e*2,none⟩) ND.o).trans Hq.o⟩)
 have HEc:=af (fun W (hb:Below d.heap.size d W)=>HE.o W um _ uc b off cap (XG.o.below (DW.o W hb)))
 clear hd;go_wp2_with fail;clear p0 c0;refine afY (xs:=[]) K4 (by rw [Hd.o];exact fZ) fun hHeld=>?_
 rw [Hd.o];rw [Hd.o] at hHeld;refine tL 0 ?_;refine tL 1 ?_;refine tL 2 ?_;refine tL 3 ?_;refine tL 4 ?_;refine tL 5 ?_;refine tL 6 ?_;refine tL 7 ?_;refine tL 8 ?_;refine tL 9 ?_;refine tL 10 ?_;refine tL 11 ?_;refine tL 12 ?_;refine tL 13 ?_;refine tL 14 ?_;refine aho 15 fun K hK=>?_;go_simp;go_at_call 263;refine (HEc.o d fZ).mono ?_;rintro en v1 ⟨rfl,hb1⟩;have Hb1:=af hb1;clear hb1;refine afX hK (K4.o _ Hb1.o) fun hHeld=>?_
 clear hK K;refine tL 16 ?_;refine tL 17 ?_;refine tL 18 ?_;refine aho 19 fun K hK=>?_;go_simp;go_at_call 265;refine (HP.o v1 (DW.o v1 Hb1.o)).mono ?_;rintro en w7 ⟨u7,rfl,Y1,hb7⟩;obtain ⟨a7,c7,rfl,_,_⟩:=RS.val Y1.rs;have HbD:=af (show base<=v1.heap.size from A1 MI.o (A1 B1.o.size (DW.o v1 Hb1.o).size));have Ho7:=af Y1;have ZH:=af (Hb1.o.trans (hb7.mono Hb1.o.size));clear Y1 hb7 Hb1;refine afX hK (K4.o _ ZH.o) fun hHeld=>?_
 clear hK K;refine tL 20 ?_;refine tL 21 ?_;refine tL 22 ?_;refine tL 23 ?_;refine tL 24 ?_;refine gY (by kernel_rfl) ?_ _;have E7:=af (DW.o _ ZH.o);clear K4 HEc HP DW D Hd ZH;obtain ⟨X1,XG,HO,B1⟩:=aew E7.o X1 XG HO B1;clear hHeld;obtain ⟨W8,Wy⟩:=XP (w7.setCell ⟨G,1,none⟩ (A0 a7 l2.length c7));have aa9:w.heap.size≠G:=X1.o.ne XG.o (by decide);have X1w:=af (show BX W8 w.heap.size 168 _ from Wy ▸ X1.o.other aa9 1 (A0 a7 l2.length c7));have XGw:=af (show BX W8 G 28 [um,A0 a7 l2.length c7,A0 (some ⟨b,off,none⟩) k.ah.length cap,uc] from Wy ▸ XG.o.set 1 (A0 a7 l2.length c7))
 have HOw:=af (show KO W8 base um (A0 a7 l2.length c7) (A0 (some ⟨b,off,none⟩) k.ah.length cap) uc ⟨k.mem,l2,k.ah,k.cache⟩ from Wy ▸ HO.o.acs XG.o aJ 1 (A0 a7 l2.length c7) (Ho7.o.mono HbD.o));have BBw:=af (show Below base w W8 from Wy ▸ (B1.o.mono MI.o).setCell (p:=⟨G,1,none⟩) HbG.o (A0 a7 l2.length c7));have f1:=XG.o.frozen 1;clear aa9;have p0:=XG.o.c4;have c0:=X1.o.c7;clear d0;go_wp2_with fail;refine (abg x2 W8 (by have:=Hx.o;omega)).mono ?_;rintro en w9 ⟨rfl,rfl⟩;obtain ⟨y,hy⟩:∃ y,(if x2=0 then (0:Int) else if x2=1 then 2 else 3)=y:=⟨_,rfl⟩;rw [hy];have HE9:=af (ada (w:=w) HF.o Hx.o BBw.o XGw.o HOw.o);rw [hy] at HE9;clear hy;go_wp2_with fail;go_ret;exact HE9.o
theorem acE (k:Kx.Kernel) (c:Kx.Call) (e base G:Nat) (um ui ue uc:Value) (w:World) (hO:KO w base um ui ue uc k) (hG:BX w G 28 [um,ui,ue,uc]) (hbase:base<=w.heap.size) (Y0:base<=G) (hok:az k=true) (hs:iQ k) (hce:c.env=e) (he:e<3) (hnm:c.name.size<=9223372036854775807) (f:Nat) (hf:f<12) (hca:c.a=f) (hk0:(Kx.inf k.ag f).kind≠0) (wR:jQ k e (Kx.inf k.ag f).guard=true) (hkd:c.kind=5) :
  Calls prog 215 #[dO G c] w (aa_ base w G (lu k c)):=by
 obtain ⟨bQ,JF,ca,cb,cc,bg⟩:=c;simp only at hce hnm hca hkd;subst hce;obtain ⟨hmo,jI,h12,hco,h3,hro⟩:=aI hok;obtain ⟨w1,hw1,X1,XG,B1,s1⟩:=XF hG bQ e ca cb cc bg;have HO:=af (hO.below B1.o);have MI:=af (show base<=w.heap.size from hbase);have kG:=af hmo;have nM:=af jI;have fJ:=af h12;have H3:=af h3;have bF:=af hok;have Hs:=af hs;have HbG:=af Y0;have QY:=af hco;have mW:=af hro;have He:=af he;have Hnm:=af hnm;have S1:=af s1;have HR:=af (fun W=>oM bg W hnm);have HM:=af (fun (g:Kx.Str) (W:World) (um ui ue uc:Value) (hX:BX W G 28 [um,ui,ue,uc]) (hK:KO W base um ui ue uc k)=>zn k ⟨bQ,e,ca,cb,cc,bg⟩ e g G um ui ue uc W hX hK.rk.e rfl (by rw [h3];exact he))
 have HE:=af (fun (W:World) (um ui uc:Value) (b off cap:Nat) (hX:BX W G 28 [um,ui,A0 (some ⟨b,off,none⟩) k.ah.length cap,uc])=>wo k ⟨bQ,e,ca,cb,cc,bg⟩ e G b off cap um ui uc W hX rfl (by rw [h3];exact he))
 have p0:=XG.o.c4;have c0:=X1.o.c7;clear hO hG hmo jI h12 hco h3 hok hs Y0 hbase hro he hnm s1;unfold dO at HM HE ⊢;subst hca hkd;have hfl:f<k.ag.length:=by rw [fJ.o];exact hf
 have wJ:(f:Int)<(k.ag.length:Int):=by omega
 obtain ⟨gi,ci,rfl,aaT,aa2⟩:=HO.o.i.shape (by rw [fJ.o];decide);obtain ⟨_,_,_,ev,_,d0,_,_⟩:=bV.at HO.o.rk.i hfl;obtain ⟨⟨rfl,rfl,_⟩,_,rfl⟩:=Zb ev;clear ev;rw [A2] at d0;have Hf:=af hf;have hin:Kx.bK (f:Int) 0 11=true:=by rw [Kx.ay];omega
 have hkb:((Kx.inf k.ag f).kind==0)=false:=by simpa using hk0
 obtain ⟨l2,x2,hp⟩:∃ l2 x2,oL k.mem k.ag f=(l2,x2):=⟨_,_,rfl⟩;have Hx:=af (show x2=0\/x2=1\/x2=2 by have:=abv (m:=k.mem) (l:=k.ag) (f:=f) (by rw [kG.o,hin,nM.o];rfl);rw [hp] at this;exact this);have HF:=af (show lu k ⟨5,e,(f:Int),cb,cc,bg⟩=abM k l2 x2 by
  have hp2:Kx.pinned k ⟨5,e,(f:Int),cb,cc,bg⟩=(l2,x2):=hp;unfold lu;rw [hp2];simp only;rw [if_neg (by simp [hin,hkb]),if_neg (by rw [show ((f:Int)).toNat=f from rfl,wR];decide)];rfl)
 have HP:=af (fun W (hb:Below w1.heap.size w1 W)=>aaN k.mem k.ag f um _ W (HO.o.below hb).rk.m kG.o (HO.o.below hb).rk.i Hs.o.1 nM.o fJ.o hf)
 rw [hp] at HP;clear hfl wR hk0 aaT aa2 hf hin hkb hp;go_enter func215,ntmps215;obtain ⟨d,hd⟩:=XP w1.drew;have Hd:=af hd;have D:=af (show Below w1.heap.size w1 d from hd ▸ Below.bz fZ);have DW:=af (fun (W:World) (hb:Below d.heap.size d W)=>(D.o.trans (hb.mono D.o.size):Below w1.heap.size w1 W))
 have K4:=af (show ∀ W,Below d.heap.size d W->((fun W:World=>W.cell? ⟨w.heap.size,0,none⟩=some (.pointer (some ⟨G,0,none⟩))/\W.cell? ⟨G,0,none⟩=some um/\W.cell? ⟨G,1,none⟩=some (A0 (some ⟨gi,0,none⟩) k.ag.length ci))) W from fun W hb=>⟨(X1.o.below (DW.o W hb)).cell 0,(XG.o.below (DW.o W hb)).cell 0,(XG.o.below (DW.o W hb)).cell 1⟩)
 have HbD:=af (show base<=d.heap.size from A1 MI.o (A1 B1.o.size D.o.size));clear hd;go_wp2_with fail;clear p0 c0;refine afY (xs:=[]) K4 (by rw [Hd.o];exact fZ) fun hHeld=>?_
 rw [Hd.o];rw [Hd.o] at hHeld;refine tL 0 ?_;refine tL 1 ?_;refine tL 2 ?_;refine tL 3 ?_;refine tL 4 ?_;refine tL 5 ?_;refine tL 6 ?_;refine tL 7 ?_;refine tL 8 ?_;refine tL 9 ?_;refine tL 10 ?_;refine aho 11 fun K hK=>?_;go_simp;go_at_call 267;refine (HP.o d D.o).mono ?_;rintro en w7 ⟨u7,rfl,Y1,hb7⟩;obtain ⟨a7,c7,rfl,_,_⟩:=RS.val Y1.rs;have Ho7:=af Y1;have ZH:=af hb7;clear Y1 hb7;refine afX hK (K4.o _ ZH.o) fun hHeld=>?_
 clear hK K;refine tL 12 ?_;refine tL 13 ?_;refine tL 14 ?_;refine tL 15 ?_;refine tL 16 ?_;refine gY (by kernel_rfl) ?_ _;have E7:=af (DW.o _ ZH.o);clear K4 HP DW D Hd ZH;obtain ⟨X1,XG,HO,B1⟩:=aew E7.o X1 XG HO B1;clear hHeld;obtain ⟨W8,Wy⟩:=XP (w7.setCell ⟨G,1,none⟩ (A0 a7 l2.length c7));have aa9:w.heap.size≠G:=X1.o.ne XG.o (by decide);have X1w:=af (show BX W8 w.heap.size 168 _ from Wy ▸ X1.o.other aa9 1 (A0 a7 l2.length c7));have XGw:=af (show BX W8 G 28 [um,A0 a7 l2.length c7,ue,uc] from Wy ▸ XG.o.set 1 (A0 a7 l2.length c7))
 have HOw:=af (show KO W8 base um (A0 a7 l2.length c7) (ue) uc ⟨k.mem,l2,k.ah,k.cache⟩ from Wy ▸ HO.o.acs XG.o aJ 1 (A0 a7 l2.length c7) (Ho7.o.mono HbD.o));have BBw:=af (show Below base w W8 from Wy ▸ (B1.o.mono MI.o).setCell (p:=⟨G,1,none⟩) HbG.o (A0 a7 l2.length c7));have f1:=XG.o.frozen 1;clear aa9;have p0:=XG.o.c4;have c0:=X1.o.c7;clear d0;go_wp2_with fail;refine (abg x2 W8 (by have:=Hx.o;omega)).mono ?_;rintro en w9 ⟨rfl,rfl⟩;obtain ⟨y,hy⟩:∃ y,(if x2=0 then (0:Int) else if x2=1 then 2 else 3)=y:=⟨_,rfl⟩;rw [hy];have HE9:=af (ada (w:=w) HF.o Hx.o BBw.o XGw.o HOw.o);rw [hy] at HE9;clear hy;go_wp2_with fail;go_ret;exact HE9.o
def adf (base:Nat) (w:World) (um ui ue uc:Value) (k:Kx.Kernel) (x d:Int) (en:Ending) (w':World):Prop:=
 en=.returned (.tuple #[])/\∃ gi cap cs,ui=A0 (some ⟨gi,0,none⟩) k.ag.length cap/\base<=gi/\w.heap[gi]?=some (.cells cs 98 (0,0))/\w.grownBy w' (some gi)/\KO w' base um ui ue uc ⟨k.mem,aP k.ag x d,k.ah,k.cache⟩
theorem acF (k:Kx.Kernel) (c:Kx.Call) (e base G:Nat) (x d:Int) (um ui ue uc:Value) (w:World) (hO:KO w base um ui ue uc k) (hG:BX w G 28 [um,ui,ue,uc]) (h12:k.ag.length=12) (hn:oI 1005 k.ag) (hx:x<=9223372036854775807) (hd:d=1\/d=-1) (hce:c.env=e) :
  Calls prog 299 #[dO G c,I_ x,I_ d] w (adf base w um ui ue uc k x d):=by
 obtain ⟨bQ,JF,ca,cb,cc,bg⟩:=c;simp only at hce;subst hce;obtain ⟨w1,hw1,X1,XG,B1,s1⟩:=XF hG bQ e ca cb cc bg;have HO:=af (hO.below B1.o);have G1:=af (IG B1.o none);obtain ⟨gi,ci,rfl,aaT,aa2⟩:=HO.o.i.shape (by rw [h12];decide);obtain ⟨cs,hcs⟩:=hO.i.kind rfl;have Hcs:=af hcs;have Hgi:=af aaT;have p0:=XG.o.c4;have c0:=X1.o.c7;clear hG s1 aaT aa2 hcs hO;unfold dO;go_enter func299,ntmps299
 cases he:Kx.entry x with
 | none =>
  go_wp2_with (go_at_call 140;refine (bZ x _ hx).mono ?_;rw [G7 he];rintro en w2 ⟨rfl,rfl⟩);go_end0;exact ⟨rfl,gi,ci,cs,rfl,Hgi.o,Hcs.o,IG B1.o _,by rw [nT he];exact HO.o⟩
 | some fb =>
  obtain ⟨f,b⟩:=fb;have hf:=dU he;have hfl:f<k.ag.length:=by omega
  obtain ⟨g',c',ev,hbg,aag,⟨Jq,hgk⟩,⟨z,hz⟩,hfz,hrf,hset⟩:=HO.o.aF (f:=f) hfl;obtain ⟨⟨rfl,_⟩,_,rfl⟩:=Zb ev;clear ev;have hn1:=hn f;obtain ⟨r,hr⟩:=XP ((Kx.inf k.ag f).refs);have HI2:=af (show aP k.ag x d=k.ag.set f { Kx.inf k.ag f with refs:=r+d } by rw [nU he,<-hr]);rw [hr] at hn1 hrf;have hset:=af (hset (r+d));have hwr:IntKind.i64.wrap (r+d)=r+d:=by rw [IntKind.wrap_i64];omega
  have wJ:(f:Int)<(k.ag.length:Int):=by omega
  have HE:=af (bZ x w1 hx);rw [C_ he] at HE;have GW:=af (aK w1 gi (f*3+2) (I_ (r+d)));have BG:=af (IG B1.o (some gi));clear he hn1 hn hr hz hbg aag hgk hx hd hfl hf h12;go_wp2_with (go_at_call 140;refine HE.o.mono ?_;rintro en w2 ⟨rfl,rfl⟩);go_end0;exact ⟨rfl,gi,ci,cs,rfl,Hgi.o,Hcs.o,grownBy_trans BG.o GW.o,by rw [HI2.o];exact hset.o⟩
theorem abN (l:List Int) (x:Int) (v:Value) (w:World) (h:RI w v l) :
  Calls prog 319 #[v,I_ x] w fun e w'=>∃ r:Int,e=.returned (I_ r)/\decide (0<=r)=l.contains x/\w=w':=by
 obtain ⟨a,cap,rfl⟩:=h.val;have hl:=h.1;have H:=af h;clear h;go_enter func319,ntmps319;go_wp2_with fail;go_loopw [8] (fun i wr=>∃ k:Nat,i=I_ k/\k<=l.length/\TI (∀ j,j<k->l.getD j 0≠x)/\wr=w) (fun i _=>l.length - (intOf i).toNat)
 case atStart=>exact ⟨0,rfl,Nat.zero_le _,fun j hj=>absurd hj (Nat.not_lt_zero _),rfl⟩
 case round =>
  obtain ⟨k,rfl,hk,hn,rfl⟩:=hrel
  by_cases hlt:k<l.length
  ·obtain ⟨b,off,cap1,e,_,h1⟩:=H.o.at hlt;obtain ⟨rfl,_,rfl⟩:=Za e;clear e;have kQ:(k:Int)<(l.length:Int):=by omega
   have Hy:=af (show l.getD k 0=l[k] from by simp [hlt]);have Hm:=af (show l[k] ∈ l from List.getElem_mem hlt);generalize l[k]=y at h1 Hy Hm
   by_cases hq:x=y
   ·have hqb:(x==y)=true:=by simpa using hq
    have Hq:=af hq;clear hq;go_wp2_with fail;go_ret;exact ⟨_,rfl,by rw [Hq.o];simpa using Hm.o,rfl⟩
   have hqb:(x==y)=false:=by simpa using hq
   have Hq:=af hq;clear hq;go_wp2_with fail;go_roundw
   case rel =>
    refine ⟨k+1,by go_num,by omega,?_,trivial⟩;show ∀ j,j<k+1->l.getD j 0≠x;intro j hj
    by_cases e:j=k
    ·subst e;rw [Hy.o];exact fun h=>Hq.o h.symm
    exact hn.o j (by omega)
   case measure=>simp [intOf];omega
  have:k=l.length:=by omega
  subst this;go_wp2_with fail;go_ret;refine ⟨_,rfl,?_,rfl⟩;have hnm:l.contains x=false:=by
   rw [<-Bool.not_eq_true];intro hc;rw [List.contains_iff_mem] at hc;obtain ⟨j,hj,e⟩:=List.getElem_of_mem hc;exact hn.o j hj (by simp [hj,e])
  rw [hnm];rfl
theorem acm (l:List Int) (x:Int) (v:Value) (w:World) (h:RI w v l) :
  Calls prog 298 #[v,I_ x] w fun e w'=>e=.returned (.bool (l.contains x))/\w=w':=by
 have Hc:=af (abN l x v w h);clear h;go_enter func298,ntmps298;go_wp2_with (go_at_call 319;refine Hc.o.mono ?_;rintro e w' ⟨r,rfl,hf,rfl⟩;have Hf:=af hf;clear hf);go_ret;exact ⟨ak (by rw [<-Hf.o]),rfl⟩
end Go.Proofs.YthcmmoibpgcgaaaGreatDoor
