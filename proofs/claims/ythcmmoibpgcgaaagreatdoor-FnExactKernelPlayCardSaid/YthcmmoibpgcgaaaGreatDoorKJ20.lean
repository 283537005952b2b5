/- Contracts: impl.calling.set. (printed by kj20.py) -/
import Derived.Test.YthcmmoibpgcgaaaGreatDoorKCe
import Derived.Test.YthcmmoibpgcgaaaGreatDoorKJd
import Derived.Test.YthcmmoibpgcgaaaGreatDoorKJe
set_option maxHeartbeats 4000000
set_option maxRecDepth 100000
set_option linter.all false
open List renaming all_eq_true->A1
open Nat renaming le_trans->A2,le_succ_of_le->A3,zero_add->A4
open Bool renaming not_eq_true'->A5,eq_iff_iff->A6
open Option.some renaming injEq->A9
open Go.Value renaming slice->A0
open Go.Proofs.Tryz
namespace Go.Proofs.YthcmmoibpgcgaaaGreatDoor
open Go.RowKit Kx
theorem BX.ab9 {w w':World} {g q:Nat} {t t':TypeId} {l:List Value} {cs:Array Value} (h:BX w g t l) (hg:w.grownBy w' (some q)) (hb:w.heap[q]?=some (.cells cs t' (0,0))) (hne:t≠t'):BX w' g t l:=(hg.block g h.lt fun he=>h.ne hb hne (by simpa using he)).trans h
theorem acK {x:Int} (h:Kx.entry x=none) (h2:(dY x==2)=false):x=0:=by
 unfold dY at h2;split at h2
 ·assumption
 rw [h] at h2;simp at h2
theorem acd (l:List Nat) (g:Nat):(fU l).contains (g:Int)=l.contains g:=by
 rw [A6,List.contains_iff_mem,List.contains_iff_mem];unfold fU;rw [List.mem_map];exact ⟨fun ⟨a,h1,h2⟩=>by rw [show g=a by omega];exact h1,fun h=>⟨g,h,rfl⟩⟩
theorem acn {l:List aG} {a b:List Nat} {r:List Kx.Str} (h:∀ g,g ∈ a↔g ∈ b):Kx.allowed l a r=Kx.allowed l b r:=by
 unfold Kx.allowed;rw [A6,A1,A1];exact ⟨fun H x hx=>H x ((h x).2 hx),fun H x hx=>H x ((h x).1 hx)⟩
theorem acR {k:Kx.Kernel} (h:Kx.Ok k) {e f:Nat} (he:e<3) (hf:f<12) (ht:aX (Kx.inf k.ag f).kind=true) :
  (Kx.reach k.mem (au k.ah e).root).contains f=iy k.mem (au k.ah e) f:=by
 have hr:=h.root e he;unfold iy;generalize (au k.ah e).root=r at *;rw [A6,List.contains_iff_mem,iY,Bool.or_eq_true,Bool.and_eq_true,List.contains_iff_mem,lD,beq_iff_eq];constructor
 ·rintro ⟨h0,h1,h2 | h2 | ⟨t,h2,h3⟩⟩
  ·left;omega
  ·right;exact ⟨by simpa using h0,h2⟩
  exfalso
  rcases hr with hr | ⟨_,hr1,hr2⟩
  ·omega
  obtain ⟨n1,_,n2⟩:=h.names (t:=r.toNat) (by omega) (by rw [hr2];rfl) h2;obtain ⟨_,_,n3⟩:=h.names (t:=t) n1 (by rw [n2,hr2];rfl) h3;rw [n3,n2,hr2] at ht
  cases ht
 rintro (h2 | ⟨h0,h2⟩)
 ·exact ⟨by omega,hf,.inl (by omega)⟩
 exact ⟨by simpa using h0,hf,.inr (.inl h2)⟩
theorem ade (k:Kx.Kernel) (c:Kx.Call) (e base G:Nat) (um ui ue uc:Value) (w:World) (hO:KO w base um ui ue uc k) (hG:BX w G 28 [um,ui,ue,uc]) (hbase:base<=w.heap.size) (Y0:base<=G) (hok:az k=true) (hs:iQ k) (hce:c.env=e) (he:e<3) (hnm:c.name.size<=9223372036854775807) (f:Nat) (hf:f<12) (hca:c.a=f) (hk0:(Kx.inf k.ag f).kind≠0) (wR:jQ k e (Kx.inf k.ag f).guard=true) (hcc:c.c<=9223372036854775807) :
  Calls prog 268 #[dO G c] w (aa_ base w G (Kx.lQ k c)):=by
 obtain ⟨bQ,JF,ca,cb,cc,bg⟩:=c;simp only at hce hnm hca hcc;subst hce;obtain ⟨hmo,jI,h12,hco,h3,hro⟩:=aI hok;obtain ⟨w1,hw1,X1,XG,B1,s1⟩:=XF hG bQ e ca cb cc bg;have HO:=af (hO.below B1.o);have MI:=af (show base<=w.heap.size from hbase);have kG:=af hmo;have nM:=af jI;have fJ:=af h12;have H3:=af h3;have bF:=af hok;have Hs:=af hs;have HbG:=af Y0;have QY:=af hco;have mW:=af hro;have He:=af he;have Hnm:=af hnm;have S1:=af s1;have HR:=af (fun W=>oM bg W hnm);have HM:=af (fun (g:Kx.Str) (W:World) (um ui ue uc:Value) (hX:BX W G 28 [um,ui,ue,uc]) (hK:KO W base um ui ue uc k)=>zn k ⟨bQ,e,ca,cb,cc,bg⟩ e g G um ui ue uc W hX hK.rk.e rfl (by rw [h3];exact he))
 have HE:=af (fun (W:World) (um ui uc:Value) (b off cap:Nat) (hX:BX W G 28 [um,ui,A0 (some ⟨b,off,none⟩) k.ah.length cap,uc])=>wo k ⟨bQ,e,ca,cb,cc,bg⟩ e G b off cap um ui uc W hX rfl (by rw [h3];exact he))
 obtain ⟨p0,p1,p2,p3⟩:=XG.o.c4;obtain ⟨c0,c1,c2,c3,c4,c5,c6⟩:=X1.o.c7;clear hO hG hmo jI h12 hco h3 hok hs Y0 hbase hro he hnm s1;unfold dO at HM HE ⊢;subst hca;have hfl:f<k.ag.length:=by rw [fJ.o];exact hf
 have wJ:(f:Int)<(k.ag.length:Int):=by omega
 obtain ⟨gi,ci,rfl,aaT,aa2⟩:=HO.o.i.shape (by rw [fJ.o];decide);have HFC:=af (aaC (c:=⟨bQ,e,(f:Int),cb,cc,bg⟩) 0 rfl hf hk0 wR);have HV:=af (show Kx.lQ k ⟨bQ,e,(f:Int),cb,cc,bg⟩=if aO k ⟨bQ,e,(f:Int),cb,cc,bg⟩ 0≠0 then (k,0,aO k ⟨bQ,e,(f:Int),cb,cc,bg⟩ 0) else if qJ k ⟨bQ,e,(f:Int),cb,cc,bg⟩ then (k,0,3) else if !((kw k f).all fun e=>Kx.allowed k.ag (Kx.behind k cc) (au k.ah e).aB) then (k,0,1) else if lJ k ⟨bQ,e,(f:Int),cb,cc,bg⟩ then (k,0,1) else (⟨Kx.bG k.mem f cb.toNat cc,aP (aP k.ag (Kx.word k.mem f cb.toNat) (-1)) cc 1,k.ah,iE k.cache (kw k f) (kw k f).length⟩,0,0) by
  have h3:iE k.cache (kw k f) (kw k f).length=(kw k f).foldl (fun (ca:List Kx.Cached) (e:Nat)=>fP ca (e:Int)) k.cache:=by unfold iE;rw [List.take_length]
  rw [h3];rfl)
 have HB:=af (show qJ k ⟨bQ,e,(f:Int),cb,cc,bg⟩=(!Kx.bK cb 0 3||dY cc==2||(match Kx.entry cc with | none=>false | some (g,_)=>(Kx.inf k.ag g).kind != (Kx.inf k.ag f).kind - 1)) from rfl)
 have Hf:=af hf;have Vd:=af hcc;have HOK:=af (nN.1 bF.o);obtain ⟨kd,hkd⟩:=XP ((Kx.inf k.ag f).kind);rw [hkd] at HFC HB;have Ob:=af hkd;obtain ⟨sb,hsb⟩:=XP (!aX kd||qJ k ⟨bQ,e,(f:Int),cb,cc,bg⟩);have HF3:=af (show sb=true->Kx.lQ k ⟨bQ,e,(f:Int),cb,cc,bg⟩=(k,0,3) from fun h=>by
  rw [HV.o]
  cases ht:aX kd with
  | false=>rw [show aO k ⟨bQ,e,(f:Int),cb,cc,bg⟩ 0=3 from HFC.o.trans (if_pos (.inr ⟨rfl,ht⟩))];rfl
  | true =>
   rw [show aO k ⟨bQ,e,(f:Int),cb,cc,bg⟩ 0=0 from HFC.o.trans (if_neg (by rw [ht];simp)),if_neg (by decide)];rw [<-hsb,ht] at h;rw [show qJ k ⟨bQ,e,(f:Int),cb,cc,bg⟩=true by simpa using h];rfl)
 have Hsb:=af hsb;clear hfl aaT aa2 hf hcc hk0 wR hkd hsb;go_enter func268,ntmps268;go_wp2_with fail;go_quiet (fail);generalize hd:World.drewN w1 _=d;have D:Below w1.heap.size w1 d:=hd ▸ below_drewN _ _;obtain ⟨X1,XG,HO,B1⟩:=aew D X1 XG HO B1;clear p0 p1 p2 p3 c0 c1 c2 c3 c4 c5 c6;obtain ⟨p0,p1,p2,p3⟩:=XG.o.c4;obtain ⟨c0,c1,c2,c3,c4,c5,c6⟩:=X1.o.c7;clear hd D;obtain ⟨_,_,_,ev,_,d0,_,_⟩:=bV.at HO.o.rk.i (k:=f) (by rw [fJ.o];exact Hf.o);obtain ⟨⟨rfl,rfl,_⟩,_,rfl⟩:=Zb ev;clear ev;rw [A4,Ob.o] at d0;go_upto_region 4 with (go_at_call 140;refine (bZ cc _ Vd.o).mono ?_;rintro en w2 ⟨rfl,rfl⟩;unfold Eg)
 go_cut [7,9,70] from 17 (fun s7 s9 s70 wx=>s7=I_ (FK cc)/\s9=.bool (Ik cc)/\s70=.bool sb/\TI (Below d.heap.size d wx))
 case first =>
  cases ht:aX kd with
  | false =>
   have Ht:=af ht;have HS:=af (show sb=true by rw [<-Hsb.o,ht];rfl);clear ht;go_quiet ((go_at_call 66;exact Calls.quiet_of_same ((j_ _ _).mono fun _ _ ⟨he,hw⟩=>⟨by rw [he,Ht.o],hw.symm⟩)))
   go_wp2_with fail;go_meet;exact ⟨rfl,rfl,by rw [HS.o],below_drewN _ _⟩
  | true =>
   have Ht:=af ht;have WZ:=af (dF.1 ht)
   cases hin:Kx.bK cb 0 3 with
   | false =>
    have jR:=af hin;have HS:=af (show sb=true by rw [<-Hsb.o,HB.o,hin];simp);clear ht hin;go_quiet (first | (go_at_call 66;exact Calls.quiet_of_same ((j_ _ _).mono fun _ _ ⟨he,hw⟩=>⟨by rw [he,Ht.o],hw.symm⟩)) | (go_at_call 77;exact Calls.quiet_of_same ((FH _ _).mono fun _ _ ⟨he,hw⟩=>⟨by rw [he,jR.o],hw.symm⟩)))
    go_wp2_with fail;go_meet;exact ⟨rfl,rfl,by rw [HS.o],below_drewN _ _⟩
   | true =>
    have jR:=af hin
    by_cases hc0:cc=0
    ·subst hc0;have HS:=af (show sb=false by rw [<-Hsb.o,HB.o,hin,ht,g_];rfl);clear ht hin;go_quiet (first | (go_at_call 66;exact Calls.quiet_of_same ((j_ _ _).mono fun _ _ ⟨he,hw⟩=>⟨by rw [he,Ht.o],hw.symm⟩)) | (go_at_call 77;exact Calls.quiet_of_same ((FH _ _).mono fun _ _ ⟨he,hw⟩=>⟨by rw [he,jR.o],hw.symm⟩)))
     go_wp2_with fail;go_meet;exact ⟨rfl,rfl,by rw [HS.o],below_drewN _ _⟩
    have hcb:(cc != 0)=true:=by simpa using hc0
    cases hen:Kx.entry cc with
    | none =>
     have HS:=af (show sb=true by
      have hk2:(dY cc==2)=true:=by unfold dY;rw [if_neg hc0,hen];rfl
      rw [<-Hsb.o,HB.o,hk2];simp)
     have oV:=af (uB hen);rw [oV.o];clear ht hin hc0 hen;go_quiet (first | (go_at_call 66;exact Calls.quiet_of_same ((j_ _ _).mono fun _ _ ⟨he,hw⟩=>⟨by rw [he,Ht.o],hw.symm⟩)) | (go_at_call 77;exact Calls.quiet_of_same ((FH _ _).mono fun _ _ ⟨he,hw⟩=>⟨by rw [he,jR.o],hw.symm⟩)))
     go_wp2_with fail;go_meet;exact ⟨rfl,by rw [oV.o],by rw [HS.o],below_drewN _ _⟩
    | some pr =>
     obtain ⟨fr,bw⟩:=pr;have hfr:=dU hen;have HS:=af (show sb=((Kx.inf k.ag fr).kind != kd - 1) by
      have hk2:(dY cc==2)=false:=by
       cases hk:(dY cc==2) with
       | false=>rfl
       | true=>exfalso;unfold dY at hk;rw [if_neg hc0,hen] at hk;simp at hk
      rw [<-Hsb.o,HB.o,hin,ht,hk2,hen];simp)
     have oV:=af (uC hen);rw [oV.o.1,oV.o.2];have VZ:(fr:Int)<(k.ag.length:Int):=by have:=fJ.o;omega
     obtain ⟨_,_,_,ev,_,q0,_,_⟩:=bV.at HO.o.rk.i (k:=fr) (by have:=fJ.o;omega);obtain ⟨⟨rfl,rfl,_⟩,_,rfl⟩:=Zb ev;clear ev;rw [A4] at q0;have Hnd:=af (show Kx.needs kd=kd - 1 by rcases WZ.o with rfl | rfl <;> rfl)
     generalize (Kx.inf k.ag fr).kind=kr at q0 HS;clear ht hin hc0 hen;go_quiet (first | (go_at_call 66;exact Calls.quiet_of_same ((j_ _ _).mono fun _ _ ⟨he,hw⟩=>⟨by rw [he,Ht.o],hw.symm⟩)) | (go_at_call 77;exact Calls.quiet_of_same ((FH _ _).mono fun _ _ ⟨he,hw⟩=>⟨by rw [he,jR.o],hw.symm⟩)) | (go_at_call 148;exact Calls.quiet_of_same ((uA _ _).mono fun _ _ ⟨he,hw⟩=>⟨by rw [he,Hnd.o],hw.symm⟩)))
     go_wp2_with fail;go_meet;exact ⟨by rw [oV.o.2],by rw [oV.o.1],by rw [HS.o],below_drewN _ _⟩
 case rest =>
  obtain ⟨rfl,rfl,rfl,Dt⟩:=hcut;obtain ⟨X1,XG,HO,B1⟩:=aew Dt.o X1 XG HO B1;clear p0 p1 p2 p3 c0 c1 c2 c3 c4 c5 c6;obtain ⟨p0,p1,p2,p3⟩:=XG.o.c4;obtain ⟨c0,c1,c2,c3,c4,c5,c6⟩:=X1.o.c7;obtain ⟨wa,rfl⟩:∃ wa:World,wa=wc:=⟨_,rfl⟩;clear Dt d0
  cases sb with
  | true =>
   have HF:=af (HF3.o rfl);clear HF3 Hsb HV HB HFC;go_wp2_with fail;go_ret;exact aar HF.o (by decide) (B1.o.mono MI.o)
  | false =>
   have hs:=Hsb.o;simp only [Bool.or_eq_false_iff,Bool.not_eq_false'] at hs;obtain ⟨ht,adY⟩:=hs;have hb3:=adY;rw [HB.o] at hb3;simp only [Bool.or_eq_false_iff,Bool.not_eq_false'] at hb3;obtain ⟨⟨hin,Tv⟩,hmt⟩:=hb3;obtain ⟨hb0,aeK⟩:=Kx.ay.1 hin;obtain ⟨b,rfl⟩:=Int.eq_ofNat_of_zero_le hb0;have Hb4:=af (show b<4 by omega);have zG:=af (show Kx.lQ k ⟨bQ,e,(f:Int),(b:Int),cc,bg⟩=if !((kw k f).all fun e=>Kx.allowed k.ag (Kx.behind k cc) (au k.ah e).aB) then (k,0,1) else if lJ k ⟨bQ,e,(f:Int),(b:Int),cc,bg⟩ then (k,0,1) else (⟨Kx.bG k.mem f b cc,aP (aP k.ag (Kx.word k.mem f b) (-1)) cc 1,k.ah,iE k.cache (kw k f) (kw k f).length⟩,0,0) by
    rw [HV.o,show aO k ⟨bQ,e,(f:Int),(b:Int),cc,bg⟩ 0=0 from HFC.o.trans (if_neg (by rw [ht];simp)),if_neg (by decide),adY];rfl)
   have HE0:=af (show Kx.entry cc=none->cc=0 from fun h=>acK h Tv);have HEs:=af (show ∀ fr bw,Kx.entry cc=some (fr,bw)->(Kx.inf k.ag fr).kind=kd - 1 from fun fr bw h=>by rw [h] at hmt;simpa using hmt)
   have WZ:=af (dF.1 ht);clear ht adY hin Tv hmt hb0 aeK HF3 Hsb HV HB HFC;go_upto_if 71 with fail;go_cut [7,9,10] from 17 (fun s7 s9 s10 wx=>s7=I_ (FK cc)/\s9=.bool (Ik cc)/\∃ (bh:List Nat) (a10:Option Addr) (c10:Nat),s10=A0 a10 bh.length c10/\TI (RI wx (A0 a10 bh.length c10) (fU bh))/\TI (∀ g,g ∈ bh↔g ∈ Kx.behind k cc)/\TI (Below wa.heap.size wa wx))
   case first =>
    cases hen:Kx.entry cc with
    | none =>
     have oV:=af (uB hen);rw [oV.o];have We:=af (show Kx.behind k cc=[] by unfold Kx.behind;rw [hen]);clear hen;go_wp2_with fail;go_meet;exact ⟨rfl,by rw [oV.o],[],none,0,rfl,RI.nil _,fun g=>by rw [We.o],Below.refl _ _⟩
    | some pr =>
     obtain ⟨fr,bw⟩:=pr;have hfr:=dU hen;have oV:=af (uC hen);rw [oV.o.1,oV.o.2];have We:=af (show Kx.behind k cc=if (Kx.inf k.ag fr).kind≠2 then [fr] else fr :: ax (Kx.row k.mem fr) by unfold Kx.behind;rw [hen]);have hkr:=HEs.o fr bw hen;have VZ:(fr:Int)<(k.ag.length:Int):=by have:=fJ.o;omega
     obtain ⟨w4,hw4⟩:=XP (wa.alloc (.cells #[I_ (fr:Int)] 3));have B4:=af (show Below wa.heap.size wa w4 from hw4 ▸ dm);have H4:=af (show OS iR 1 3 w4 wa.heap.size (A0 (some ⟨wa.heap.size,0,none⟩) 1 1) [(fr:Int)] from hw4 ▸ OS.lit (l:=[(fr:Int)]) aW _ rfl rfl (by simp));have zw:=af (show wa.heap.size<=w4.heap.size from B4.o.size);clear p0 p1 p2 p3 c0 c1 c2 c3 c4 c5 c6;have HO4:=af (HO.o.below B4.o);have X14:=af (X1.o.below B4.o);have XG4:=af (XG.o.below B4.o);obtain ⟨p0,p1,p2,p3⟩:=XG4.o.c4;obtain ⟨c0,c1,c2,c3,c4,c5,c6⟩:=X14.o.c7;obtain ⟨_,_,_,ev,_,q0,_,_⟩:=bV.at HO4.o.rk.i (k:=fr) (by have:=fJ.o;omega);obtain ⟨⟨rfl,rfl,_⟩,_,rfl⟩:=Zb ev;clear ev;rw [A4,hkr] at q0;rw [hkr] at We;have Hkr:=af hkr
     have HN:=af (Cm k.mem [fr] um _ w4 HO4.o.rk.m kG.o (show RI w4 _ (fU [fr]) from H4.o.oi.ri) (fun x hx=>by rw [List.mem_singleton.1 hx];exact hfr) (by simp));clear hen hkr hfr;rcases WZ.o with rfl | rfl
     ·replace We:=af (show Kx.behind k cc=[fr] by rw [We.o,if_pos (by decide)]);clear HN;go_wp2_with fail;refine (j_ _ _).mono ?_;rintro en w5 ⟨rfl,rfl⟩;rw [show aX 1=false from rfl];go_wp2_with fail;go_meet;exact ⟨by rw [oV.o.2],by rw [oV.o.1],[fr],_,_,rfl,H4.o.oi.ri,fun g=>by rw [We.o],B4.o⟩
     replace We:=af (show Kx.behind k cc=fr :: ax (Kx.row k.mem fr) by rw [We.o,if_neg (by decide)]);go_wp2_with fail;refine (j_ _ _).mono ?_;rintro en w5 ⟨rfl,rfl⟩;rw [show aX 2=true from rfl];go_wp2_with fail;refine HN.o.mono ?_;rintro en w6 ⟨u6,rfl,yI,hb6⟩;obtain ⟨ns,hns⟩:∃ ns,fE ([fr].flatMap fun f=>ax (Kx.row k.mem f))=ns:=⟨_,rfl⟩
     rw [hns] at yI;have Qs:=af hns;have HL:=af (show [(fr:Int)].length+(fU ns).length<=1099511627776 by
      rw [aQ,<-hns];have h12:(fE ([fr].flatMap fun f=>ax (Kx.row k.mem f))).length<=12:=A2 (List.length_filter_le _ _) (by simp)
      have h1:[(fr:Int)].length=1:=rfl;omega)
     have Ri:=af yI;have H6:=af (H4.o.below hb6);have B6:=af (B4.o.trans (hb6.mono zw.o));have z6:=af (A2 zw.o hb6.size);clear yI hb6 hns HN;go_wp2_with (at_builtin;refine aV wK rfl _ _ rfl wa.heap.size _ [(fr:Int)] rfl H6.o _ (fU ns) rfl Ri.o.os.rs HL.o z6.o ?_;intro v' w7 Y1 Fh hn7;have Ho7:=af Y1;have B7:=af (Below.dN B6.o H6.o Fh aW z6.o);clear Y1 Fh hn7);have Ot:=af (show OI w7 wa.heap.size v' (fU (fr :: ns)) from Ho7.o.oi);obtain ⟨a8,c8,e8⟩:=Gu Ot.o;subst e8;go_meet;exact ⟨by rw [oV.o.2],by rw [oV.o.1],fr :: ns,a8,c8,rfl,Ot.o.ri,fun g=>by
      rw [We.o,List.mem_cons,List.mem_cons,<-Qs.o,nG];simp only [List.flatMap_cons,List.flatMap_nil,List.append_nil];exact ⟨fun h=>h.elim .inl fun h=>.inr h.2,fun h=>h.elim .inl fun h=>.inr ⟨kE h,h⟩⟩,B7.o⟩
   case rest =>
    obtain ⟨rfl,rfl,bh,a10,c10,rfl,hRb,hmem,hbw⟩:=hcut;clear p0 p1 p2 p3 c0 c1 c2 c3 c4 c5 c6;obtain ⟨X1,XG,HO,B1⟩:=aew hbw.o X1 XG HO B1;have HAb:=af (fun r=>acn (l:=k.ag) (r:=r) hmem.o)
    have V_:=af (show ∀ x ∈ bh,x<k.ag.length from fun x hx=>by rw [fJ.o];exact Il x ((hmem.o x).1 hx))
    clear hbw hmem;obtain ⟨wl,rfl⟩:∃ wl:World,wl=wc:=⟨_,rfl⟩;obtain ⟨be,oe,ce,u,rfl,_,_,_,_⟩:=HO.o.rk.e.at (k:=0) (by rw [H3.o];decide);obtain ⟨p0,p1,p2,p3⟩:=XG.o.c4;obtain ⟨c0,c1,c2,c3,c4,c5,c6⟩:=X1.o.c7;go_wp2_with fail;clear p0 p1 p2 p3 c0 c1 c2 c3 c4 c5 c6;have hel:k.ah.length<=3:=by rw [H3.o];decide
    go_loopw [11,12,13,99] (fun s11 s12 s13 i wr=>∃ (j:Nat),i=I_ j/\j<=k.ah.length/\TI (OI wr wl.heap.size s11 (fU (iU k f j)))/\TI (∀ x,x<j->iy k.mem (au k.ah x) f=true->Kx.allowed k.ag bh (au k.ah x).aB=true)/\TI (Below wl.heap.size wl wr)) (fun _ _ _ i _=>k.ah.length - (intOf i).toNat)
    case atStart=>exact ⟨0,rfl,Nat.zero_le _,OI.nil _ _,fun x hx=>absurd hx (Nat.not_lt_zero _),Below.refl _ _⟩
    case round =>
     obtain ⟨j,rfl,hj,ho,hal,hb⟩:=hrel
     by_cases hlt:j<k.ah.length
     ·have kQ:(j:Int)<(k.ah.length:Int):=by omega
      obtain ⟨_,_,_,u,ev,hbl,q0,q1,hr⟩:=HO.o.rk.e.at hlt;obtain ⟨⟨rfl,rfl,_⟩,_,rfl⟩:=Zb ev;clear ev;obtain ⟨ua,uc',rfl,hx1,hx2⟩:=RS.val hr;clear hx1 hx2;obtain ⟨rs,hrs⟩:=XP ((au k.ah j).aB);obtain ⟨r,hrr⟩:=XP ((au k.ah j).root);rw [hrs] at q0 hr;rw [hrr] at q1;have hj3:j<3:=by have:=H3.o;omega
      have lL:r<=11:=by rw [<-hrr];exact mW.o j hj3
      have aem:=af (show (Kx.reach k.mem r).contains f=iy k.mem (au k.ah j) f by rw [<-hrr];exact acR HOK.o hj3 Hf.o (dF.2 (by rw [Ob.o];exact WZ.o)));have q0:=(hb.o.cell (p:=⟨be,oe+j*2,none⟩) hbl).trans q0;have q1:=(hb.o.cell (p:=⟨be,oe+j*2+1,none⟩) hbl).trans q1;obtain ⟨w5,hw5⟩:=XP (wr.alloc (.cells #[A0 ua rs.length uc',I_ r] 86));have B5:Below wr.heap.size wr w5:=hw5 ▸ dm;have XE5:BX w5 wr.heap.size 86 [A0 ua rs.length uc',I_ r]:=hw5 ▸ BX.new wr _ _;obtain ⟨W5,AU⟩:=XP w5.drew;have D5:Below w5.heap.size w5 W5:=AU ▸ Below.bz fZ;have XE:=af (XE5.below D5);have E5:=af (B5.trans (D5.mono B5.size));have L5:=af (hb.o.trans (E5.o.mono hb.o.size));have Qe:=af AU
      have K5:=af (show ∀ W,Below W5.heap.size W5 W->((fun W:World=>W.cell? ⟨w.heap.size,0,none⟩=some (.pointer (some ⟨G,0,none⟩))/\W.cell? ⟨G,0,none⟩=some um/\W.cell? ⟨wr.heap.size,1,none⟩=some (I_ r))) W from fun W h=>⟨((X1.o.below L5.o).below h).cell 0,((XG.o.below L5.o).below h).cell 0,(XE.o.below h).cell 1⟩)
      have HRc:=af (og k.mem r um W5 (HO.o.below L5.o).rk.m kG.o lL);have Hr:=af hr;have Wi:=af hrs;have yw:=af (BG k f j);have Hlen:=af (Du k f j);have Hj3:=af hj3;clear hr hrs hrr lL hj3 D5 B5 XE5 AU hbl;go_wp2_with fail;clear q0 q1;refine afY (xs:=[]) K5 (by rw [Qe.o];exact fZ) fun hHeld=>?_
      rw [Qe.o];rw [Qe.o] at hHeld;refine tL 0 ?_;refine tL 1 ?_;refine tL 2 ?_;refine tL 3 ?_;refine tL 4 ?_;refine tL 5 ?_;refine tL 6 ?_;refine tL 8 ?_;refine aho 7 fun K hK=>?_;go_simp;go_at_call 65;refine HRc.o.mono ?_;rintro en v7 ⟨u7,rfl,Y1,hb7⟩;have Ho7:=af Y1;have ZH:=af hb7;clear Y1 hb7;refine afX hK (K5.o _ ZH.o) fun hHeld=>?_
      clear hK K;refine aho 9 fun K hK=>?_;go_simp;go_at_call 298;refine (acm _ (f:Int) _ v7 Ho7.o.ri).mono ?_;rintro en v9 ⟨rfl,rfl⟩;rw [acd,aem.o];refine afX hK (K5.o _ ZH.o) fun hHeld=>?_
      clear hK K;refine tL 10 ?_;refine gY (by kernel_rfl) ?_ _;have L7:=af (L5.o.trans (ZH.o.mono L5.o.size));have XE7:=af (XE.o.below ZH.o);have O7:=af (ho.o.below (E5.o.trans (ZH.o.mono E5.o.size)));clear hHeld K5 HRc Ho7 XE E5 L5 aem Qe ho hb;obtain ⟨us,hus⟩:=XP (iy k.mem (au k.ah j) f);rw [hus];have Hus:=af hus;clear hus ZH
      cases us with
      | false =>
       have Hsx:=af (show iU k f (j+1)=iU k f j by rw [yw.o false Hus.o];simp);go_wp2_with fail;go_roundw
       case rel =>
        refine ⟨j+1,by go_num,by omega,by show OI _ _ _ _;rw [Hsx.o];exact O7.o,?_,L7.o⟩;show ∀ x,x<j+1->_;intro x hx h
        by_cases e:x=j
        ·subst e;rw [Hus.o] at h;cases h
        exact hal.o x (by omega) h
       case measure=>simp [intOf];omega
      | true =>
       have Hsx:=af (show iU k f (j+1)=iU k f j ++ [j] by rw [yw.o true Hus.o];simp);have hxl:=af (show (fU (iU k f j)).length+1<=1099511627776 by rw [aQ];have:=Hlen.o;have:=Hj3.o;omega);have hsz:=af L7.o.size;have aeM:=af (fun o=>XE7.o.below (Below.alloc (Below.refl v7.heap.size v7) aW o))
       go_wp2_with (at_builtin;refine kW rfl _ _ rfl wl.heap.size _ (fU (iU k f j)) rfl (O7.o.alloc _) _ 1 1 [(j:Int)] rfl rfl (cell_one_new _ _ _) hxl.o (by simp;exact A3 hsz.o) ?_;intro v' w8 xE J5;have XE8:=af ((aeM.o _).dw (OI.os (O7.o.alloc _)) J5 (by decide));have Ot:=af xE;have L8:=af (Below.app (L7.o.alloc L7.o.size _) (O7.o.alloc _) J5 aW (by simp;exact A3 hsz.o));obtain ⟨p0,p1,p2,p3⟩:=(XG.o.below L8.o).c4;obtain ⟨c0,c1,c2,c3,c4,c5,c6⟩:=(X1.o.below L8.o).c7;have y0:=XE8.o.cell 0;clear xE J5);refine (lH k.ag bh rs G _ _ _ w8 (HO.o.below L8.o).rk.i (hRb.o.below L8.o) (RS.below Hr.o L8.o) V_.o p1).mono ?_;rintro en w9 ⟨rfl,hb9⟩;have L9:=af (L8.o.trans (hb9.mono L8.o.size));have O9:=af (Ot.o.below hb9);clear hb9 p0 p1 p2 p3 c0 c1 c2 c3 c4 c5 c6 y0
       cases hav:Kx.allowed k.ag bh rs with
       | false =>
        have HF:=af (show Kx.lQ k ⟨bQ,e,(f:Int),(b:Int),cc,bg⟩=(k,0,1) by
         rw [zG.o,if_pos];rw [A5,List.all_eq_false];refine ⟨j,?_,by rw [<-HAb.o,Wi.o,hav];decide⟩;unfold kw;rw [List.mem_filter];exact ⟨List.mem_range.2 hlt,Hus.o⟩)
        clear hav;go_wp2_with fail;go_ret;exact aar HF.o (by decide) ((B1.o.trans (L9.o.mono B1.o.size)).mono MI.o)
       | true =>
        have Hav:=af hav;clear hav;go_wp2_with fail;go_roundw
        case rel =>
         refine ⟨j+1,by go_num,by omega,by show OI _ _ _ _;rw [Hsx.o,jv];exact O9.o,?_,L9.o⟩;show ∀ x,x<j+1->_;intro x hx h
         by_cases e:x=j
         ·subst e;rw [Wi.o];exact Hav.o
         exact hal.o x (by omega) h
        case measure=>simp [intOf];omega
     have hjn:j=k.ah.length:=by omega
     subst hjn;rw [show iU k f k.ah.length=kw k f from rfl] at ho;obtain ⟨us,hus⟩:=XP (kw k f);have HV3:=af (show Kx.lQ k ⟨bQ,e,(f:Int),(b:Int),cc,bg⟩=if lJ k ⟨bQ,e,(f:Int),(b:Int),cc,bg⟩ then (k,0,1) else (⟨Kx.bG k.mem f b cc,aP (aP k.ag (Kx.word k.mem f b) (-1)) cc 1,k.ah,iE k.cache us us.length⟩,0,0) by
      rw [zG.o,if_neg,hus];rw [A5,Bool.not_eq_false,A1];intro x hx;unfold kw at hx;obtain ⟨h1,h2⟩:=List.mem_filter.1 hx;rw [<-HAb.o];exact hal.o x (List.mem_range.1 h1) h2)
     have MB:=af (show us.length<=3 by rw [<-hus];exact A2 (Du k f _) hel);rw [hus] at ho;obtain ⟨a11,c11,e11⟩:=Gu ho.o;subst e11;have HbU:=af (show base<=wl.heap.size from A2 MI.o B1.o.size);obtain ⟨bm,cm,g,cg,rfl,hrow,hword,_,⟨Jq,hgk⟩⟩:=HO.o.wordAt kG.o Hf.o Hb4.o;have Hgl:=af (World.block_lt_of_cell? wl _ hword);have vW:=af ((hb.o.cell (p:=⟨bm,f,none⟩) (World.block_lt_of_cell? wl _ hrow)).trans hrow);have VT:=af (Nat.lt_of_lt_of_le (World.block_lt_of_cell? wl _ hrow) hb.o.size);obtain ⟨X1,XG,HO,B1⟩:=aew hb.o X1 XG HO B1;clear hal hb zG HAb hRb V_ hus hrow hword hgk Jq HEs WZ;obtain ⟨wo,rfl⟩:∃ wo:World,wo=wr:=⟨_,rfl⟩;obtain ⟨p0,p1,p2,p3⟩:=XG.o.c4;obtain ⟨c0,c1,c2,c3,c4,c5,c6⟩:=X1.o.c7
     go_upto_region 20 with fail;obtain ⟨sd,hsd⟩:=XP (lJ k ⟨bQ,e,(f:Int),(b:Int),cc,bg⟩);rw [hsd] at HV3;have HD:=af (show sd=(match Kx.entry cc with | none=>false | some (g,_)=>!jQ k e (Kx.inf k.ag g).guard) from hsd.symm.trans rfl)
     clear hsd;go_cut [7,9,141] from 17 (fun s7 s9 aeO wx=>s7=I_ (FK cc)/\s9=.bool (Ik cc)/\aeO=.bool sd/\TI (Below wo.heap.size wo wx))
     case first =>
      cases hen:Kx.entry cc with
      | none =>
       have oV:=af (uB hen);rw [oV.o];have HS:=af (show sd=false by rw [HD.o,hen]);clear hen;go_quiet (fail);go_wp2_with fail;go_meet;exact ⟨rfl,by rw [oV.o],by rw [HS.o],below_drewN _ _⟩
      | some pr =>
       obtain ⟨fr,bw⟩:=pr;have hfr:=dU hen;have oV:=af (uC hen);rw [oV.o.1,oV.o.2];have HS:=af (show sd=!jQ k e (Kx.inf k.ag fr).guard by rw [HD.o,hen]);have VZ:(fr:Int)<(k.ag.length:Int):=by have:=fJ.o;omega
       obtain ⟨d,hd⟩:=XP wo.drew;have Hd:=af hd;have D:=af (show Below wo.heap.size wo d from hd ▸ Below.bz fZ);obtain ⟨_,_,_,ev,hgl,_,q1,_⟩:=bV.at (HO.o.below D.o).rk.i (k:=fr) (by have:=fJ.o;omega);obtain ⟨⟨rfl,rfl,_⟩,_,rfl⟩:=Zb ev;clear ev;rw [A4] at q1;have HMd:=af (HM.o (Kx.inf k.ag fr).guard d _ _ _ _ (XG.o.below D.o) (HO.o.below D.o));obtain ⟨gd,hgd⟩:=XP ((Kx.inf k.ag fr).guard);rw [hgd] at q1 HMd HS;have Hq1:=af q1;have aeP:=af hgl;have X1d:=af (X1.o.below D.o);have XGd:=af (XG.o.below D.o)
       have K20:=af (show ∀ W,Below d.heap.size d W->((fun W:World=>W.cell? ⟨w.heap.size,0,none⟩=some (.pointer (some ⟨G,0,none⟩))/\W.cell? ⟨w.heap.size,1,none⟩=some (I_ bQ)/\W.cell? ⟨w.heap.size,2,none⟩=some (I_ e)/\W.cell? ⟨w.heap.size,3,none⟩=some (I_ (f:Int))/\W.cell? ⟨w.heap.size,4,none⟩=some (I_ (b:Int))/\W.cell? ⟨w.heap.size,5,none⟩=some (I_ cc)/\W.cell? ⟨w.heap.size,6,none⟩=some (.string bg)/\W.cell? ⟨G,1,none⟩=some (A0 (some ⟨gi,0,none⟩) k.ag.length ci)/\W.cell? ⟨gi,fr*3+1,none⟩=some (.string gd))) W from fun W h=>⟨(X1d.o.below h).cell 0,(X1d.o.below h).cell 1,(X1d.o.below h).cell 2,(X1d.o.below h).cell 3,(X1d.o.below h).cell 4,(X1d.o.below h).cell 5,(X1d.o.below h).cell 6,(XGd.o.below h).cell 1,(h.cell (p:=⟨gi,fr*3+1,none⟩) aeP.o).trans Hq1.o⟩)
       clear hen hd q1 hgl hgd p0 p1 p2 p3 c0 c1 c2 c3 c4 c5 c6;refine afY (xs:=[]) K20 (by rw [Hd.o];exact fZ) fun hHeld=>?_
       rw [Hd.o];rw [Hd.o] at hHeld;refine tL 0 ?_;refine tL 1 ?_;refine tL 2 ?_;refine tL 3 ?_;refine tL 4 ?_;refine tL 5 ?_;refine tL 6 ?_;refine tL 7 ?_;refine tL 8 ?_;refine tL 9 ?_;refine tL 10 ?_;refine tL 11 ?_;refine aho 12 fun K hK=>?_;go_simp;go_at_call 214;refine HMd.o.mono ?_;rintro en v1 ⟨rfl,hb1⟩;have Hb1:=af hb1;clear hb1;refine afX hK (K20.o _ Hb1.o) fun hHeld=>?_
       clear hK K;refine tL 13 ?_;refine tL 14 ?_;refine gY (by kernel_rfl) ?_ _;clear hHeld K20;go_wp2_with fail;go_meet;exact ⟨by rw [oV.o.2],by rw [oV.o.1],by rw [HS.o],D.o.trans (Hb1.o.mono D.o.size)⟩
     case rest =>
      obtain ⟨rfl,rfl,rfl,Dt⟩:=hcut;obtain ⟨X1,XG,HO,B1⟩:=aew Dt.o X1 XG HO B1;clear p0 p1 p2 p3 c0 c1 c2 c3 c4 c5 c6;obtain ⟨p0,p1,p2,p3⟩:=XG.o.c4;obtain ⟨c0,c1,c2,c3,c4,c5,c6⟩:=X1.o.c7;replace ho:=af (ho.o.below Dt.o);replace vW:=af ((Dt.o.cell (p:=⟨bm,f,none⟩) VT.o).trans vW.o);clear Dt HD
      cases sd with
      | true =>
       have HF:=af (show Kx.lQ k ⟨bQ,e,(f:Int),(b:Int),cc,bg⟩=(k,0,1) by rw [HV3.o,if_pos rfl]);clear HV3;go_wp2_with fail;go_ret;exact aar HF.o (by decide) (B1.o.mono MI.o)
      | false =>
       have HF:=af (show Kx.lQ k ⟨bQ,e,(f:Int),(b:Int),cc,bg⟩=(⟨Kx.bG k.mem f b cc,aP (aP k.ag (Kx.word k.mem f b) (-1)) cc 1,k.ah,iE k.cache us us.length⟩,0,0) by rw [HV3.o,if_neg (by decide)]);clear HV3;obtain ⟨uk,hm4,hmw⟩:=mem_row kG.o Hf.o;have hfm:(f:Int)<(k.mem.length:Int):=by have:=Hf.o;omega
       have MO:(b:Int)<4:=by have:=Hb4.o;omega
       obtain ⟨b2,cap2,g2,acB,e1,e2,hword,_,_⟩:=HO.o.wordAt kG.o Hf.o Hb4.o;obtain ⟨b3,cap3,g3,aft,e3,e4,hbg,hbq,⟨cs,hgk⟩,⟨z,hz⟩,hfz,hset⟩:=HO.o.bG (f:=f) (a:=b) (by omega) (by rw [hm4];exact Hb4.o);simp only [Value.slice.injEq,A9,Addr.mk.injEq] at e1 e3;obtain ⟨⟨rfl,_⟩,_,rfl⟩:=e1;obtain ⟨⟨rfl,_⟩,_,rfl⟩:=e3;rw [vW.o] at e2 e4;simp only [A9,Value.slice.injEq,Addr.mk.injEq] at e2 e4;obtain ⟨⟨rfl,_⟩,hx1,hx2⟩:=e2;obtain ⟨⟨rfl,_⟩,hx3,hx4⟩:=e4;clear hx1 hx2 hx3 hx4 hz;obtain ⟨m2,hm2⟩:=XP (Kx.bG k.mem f b cc);obtain ⟨old,hold⟩:=XP (Kx.word k.mem f b);have hset:=hset cc;rw [hm2] at hset HF;rw [hold] at hword HF;obtain ⟨i1,hi1⟩:=XP (aP k.ag old (-1));rw [hi1] at HF;obtain ⟨i2,hi2⟩:=XP (aP i1 cc 1);rw [hi2] at HF;have Hi1:=af hi1;have Hi2:=af hi2
       have OG:=af (show oI (1000+1) (aP k.ag old (-1)) from oI.jb (oI.MZ nM.o) (.inr rfl) fJ.o);have Hn0:=af (show oI 1005 k.ag from fun g=>by have:=(oI.MZ nM.o) g;omega)
       have Hn2:=af (show oI 1005 i1 from fun g=>by have h:=OG.o g;rw [Hi1.o] at h;omega);have hrow:=vW.o;obtain ⟨W5,AU⟩:=XP (wc.setCell ⟨g,b,none⟩ (I_ cc));have X1w:=af (show BX W5 w.heap.size 168 [.pointer (some ⟨G,0,none⟩),I_ bQ,I_ e,I_ (f:Int),I_ (b:Int),I_ cc,.string bg] from AU ▸ X1.o.other (X1.o.ne hgk (by decide)) b (I_ cc));have XGw:=af (AU ▸ XG.o.other (XG.o.ne hgk (by decide)) b (I_ cc));have HOw:=af (show KO W5 base _ _ _ _ ⟨m2,k.ag,k.ah,k.cache⟩ from AU ▸ hset);have BBw:=af (show Below base w W5 from AU ▸ (B1.o.mono MI.o).setCell (p:=⟨g,b,none⟩) hbg (I_ cc));have Ow:=af (show OI W5 wl.heap.size (A0 a11 us.length c11) (fU us) from AU ▸ ho.o.Oy Hgl.o b (I_ cc));have hmax:old<=9223372036854775807:=by
        have hm:=hmw old (by rw [<-hold];unfold Kx.word;exact Kx.getD_mem (by rw [hm4];exact Hb4.o));omega
       have HR1:=af (acF ⟨m2,k.ag,k.ah,k.cache⟩ ⟨bQ,e,(f:Int),(b:Int),cc,bg⟩ e base G old (-1) _ _ _ _ W5 HOw.o XGw.o fJ.o Hn0.o hmax (.inr rfl) rfl);unfold dO at HR1;have zW5:=af (show base<=W5.heap.size from A2 MI.o BBw.o.size);have v0:=X1w.o.cell 0;have v1:=X1w.o.cell 1;have v2:=X1w.o.cell 2;have v3:=X1w.o.cell 3;have v4:=X1w.o.cell 4;have v5:=X1w.o.cell 5;have v6:=X1w.o.cell 6;clear hset hgk hbq hbg uk hm4 hmw hm2 hold hi1 hi2 hmax X1 XG HO B1 ho;go_wp2_with fail;refine HR1.o.mono ?_;rintro en w6 ⟨rfl,gq,cq,cs6,ev,aeU,adJ,OT,hK6⟩;clear hword hrow hfz AU p0 p1 p2 p3 c0 c1 c2 c3 c4 c5 c6 v0 v1 v2 v3 v4 v5 v6 HR1;have X16:=af (X1w.o.ab9 OT adJ (by decide));have XG6:=af (XGw.o.ab9 OT adJ (by decide));have O6:=af (Ow.o.os.dh OT adJ (by decide)).oi
       have BB6:=af (BBw.o.grown OT zW5.o (fun q hq=>by simp only [A9] at hq;omega));have z6:=af (A2 zW5.o OT.size);have H6:=af (show KO w6 base _ _ _ _ ⟨m2,i1,k.ah,k.cache⟩ from Hi1.o ▸ hK6);clear ev aeU adJ OT hK6 X1w XGw HOw Ow BBw zW5;have HR2:=af (acF ⟨m2,i1,k.ah,k.cache⟩ ⟨bQ,e,(f:Int),(b:Int),cc,bg⟩ e base G cc 1 _ _ _ _ w6 H6.o XG6.o (by show i1.length=12;rw [<-Hi1.o,fH];exact fJ.o) Hn2.o Vd.o (.inl rfl) rfl);unfold dO at HR2;obtain ⟨c0,c1,c2,c3,c4,c5,c6⟩:=X16.o.c7;go_wp2_with fail;refine HR2.o.mono ?_;rintro en w7 ⟨rfl,gq,cq,cs7,ev,aeW,adK,Fh,hK7⟩;clear c0 c1 c2 c3 c4 c5 c6 HR2;have X17:=af (X16.o.ab9 Fh adK (by decide));have XG7:=af (XG6.o.ab9 Fh adK (by decide));have O7:=af (O6.o.os.dh Fh adK (by decide)).oi
       have BB7:=af (BB6.o.grown Fh z6.o (fun q hq=>by simp only [A9] at hq;omega));have H7:=af (show KO w7 base _ _ _ _ ⟨m2,i2,k.ah,k.cache⟩ from Hi2.o ▸ hK7);clear ev aeW adK Fh hK7 X16 XG6 H6 O6 BB6 z6;obtain ⟨a3,c3,e3,_,_⟩:=RS.val H7.o.c.rs;subst e3;go_wp2_with fail
       go_loopw [16,172] (fun _ i wr=>∃ (j:Nat) (aj:Option Addr) (cj:Nat),i=I_ j/\j<=us.length/\TI (BX wr w.heap.size 168 [.pointer (some ⟨G,0,none⟩),I_ bQ,I_ e,I_ (f:Int),I_ (b:Int),I_ cc,.string bg])/\TI (BX wr G 28 [A0 (some ⟨bm,0,none⟩) k.mem.length cm,A0 (some ⟨gi,0,none⟩) k.ag.length ci,A0 (some ⟨be,oe,none⟩) k.ah.length ce,A0 aj (iE k.cache us j).length cj])/\TI (KO wr base (A0 (some ⟨bm,0,none⟩) k.mem.length cm) (A0 (some ⟨gi,0,none⟩) k.ag.length ci) (A0 (some ⟨be,oe,none⟩) k.ah.length ce) (A0 aj (iE k.cache us j).length cj) ⟨m2,i2,k.ah,iE k.cache us j⟩)/\TI (Below base w wr)/\TI (OI wr wl.heap.size (A0 a11 us.length c11) (fU us))) (fun _ i _=>us.length - (intOf i).toNat)
       case atStart=>exact ⟨0,a3,c3,rfl,Nat.zero_le _,X17.o,XG7.o,H7.o,BB7.o,O7.o⟩
       case round =>
        obtain ⟨j,aj,cj,rfl,hj,X1,XG,HO,BB,hO⟩:=hrel;clear X17 XG7 H7 BB7 O7
        by_cases hlt:j<us.length
        ·have Q5:(j:Int)<(us.length:Int):=by omega
         obtain ⟨bu,ou,cu,ev,Ip,q0⟩:=hO.o.ri.at (k:=j) (by rw [aQ];exact hlt);rw [aQ] at ev;obtain ⟨rfl,_,rfl⟩:=Za ev;clear ev;have J3:(fU us)[j]?=some ((us[j]:Nat):Int):=by simp [fU,hlt]
         rw [(List.getElem_eq_iff _).2 J3] at q0;have Qa:=af (BU k.cache us hlt);generalize us[j]=x at q0 Qa;obtain ⟨d2,hd2⟩:=XP wr.drew;have D2:Below wr.heap.size wr d2:=hd2 ▸ Below.bz fZ;have Hd2:=af hd2;have Zw:=af (show base<=wr.heap.size from A2 MI.o BB.o.size);replace X1:=af (X1.o.below D2);replace XG:=af (XG.o.below D2);replace HO:=af (HO.o.below D2);replace BB:=af (BB.o.trans (D2.mono Zw.o));replace hO:=af (hO.o.below D2);have Z2:=af (A2 Zw.o D2.size);have K12:=af (show ∀ W,Below d2.heap.size d2 W->((fun W:World=>W.cell? ⟨w.heap.size,0,none⟩=some (.pointer (some ⟨G,0,none⟩))/\W.cell? ⟨G,3,none⟩=some (A0 aj (iE k.cache us j).length cj))) W from fun W hb=>⟨(X1.o.below hb).cell 0,(XG.o.below hb).cell 3⟩)
         have HDr:=af (abG (iE k.cache us j) x _ d2 HO.o.c.rs (rW (us.take j) k.cache QY.o));clear hd2 D2 Zw Ip J3;go_wp2_with fail;clear q0;refine afY (xs:=[11]) K12 (by rw [Hd2.o];exact fZ) fun hHeld=>?_
         rw [Hd2.o];rw [Hd2.o] at hHeld;refine tL 0 ?_;refine tL 1 ?_;refine tL 2 ?_;refine tL 3 ?_;refine tL 4 ?_;refine tL 5 ?_;refine tL 6 ?_;refine tL 7 ?_;refine aho 8 fun K hK=>?_;go_simp;go_at_call 269;refine HDr.o.mono ?_;rintro en v13 ⟨u8,rfl,xE,hb8⟩;rw [<-Qa.o] at xE;obtain ⟨a8,c8,rfl,_,_⟩:=RS.val xE.rs;have Ot:=af xE;have Hb8:=af hb8;clear xE hb8;refine afX hK (K12.o _ Hb8.o) fun hHeld=>?_
         clear hK K;refine tP 9 ?_;refine tP 10 ?_;have XG8:=af (XG.o.below Hb8.o);have p3:=XG8.o.cell 3;have f3:=XG8.o.frozen 3;refine ahp 11 fun K hK=>?_;go_simp;refine hK.out _ _ ?_;clear hK K;refine nL ?_;refine gY (by kernel_rfl) ?_ _;have X18:=af (X1.o.below Hb8.o);have X1f:=af (X18.o.other (X18.o.ne XG8.o (by decide)) 3 (A0 a8 (iE k.cache us (j+1)).length c8));have Of:=af ((hO.o.below Hb8.o).os.dh (aK v13 G 3 (A0 a8 (iE k.cache us (j+1)).length c8)) XG8.o (by decide)).oi;have XGf:=af (XG8.o.set 3 (A0 a8 (iE k.cache us (j+1)).length c8));have HOf:=af ((HO.o.below Hb8.o).ac_ XG8.o aJ 3 (A0 a8 (iE k.cache us (j+1)).length c8) (Ot.o.mono Z2.o))
         have BBf:=af ((BB.o.trans (Hb8.o.mono Z2.o)).setCell (p:=⟨G,3,none⟩) HbG.o (A0 a8 (iE k.cache us (j+1)).length c8));have hu3:=MB.o;clear p3 f3 K12 hHeld;go_wp2_with fail;go_roundw
         case rel=>exact ⟨j+1,a8,c8,by go_num,by omega,X1f.o,XGf.o,HOf.o,BBf.o,Of.o⟩
         case measure=>simp [intOf];omega
        have hjn:j=us.length:=by omega
        subst hjn;go_wp2_with fail;go_ret;exact ab1 HF.o BB.o XG.o HO.o
end Go.Proofs.YthcmmoibpgcgaaaGreatDoor
