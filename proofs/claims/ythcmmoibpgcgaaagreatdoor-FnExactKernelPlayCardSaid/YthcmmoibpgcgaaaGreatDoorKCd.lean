/- Contracts: the reference's l22Access. (printed by kc20.py) -/
import Derived.Test.YthcmmoibpgcgaaaGreatDoorKCh
set_option maxHeartbeats 4000000
set_option maxRecDepth 100000
set_option linter.all false
open List renaming getElem?_cons_zero->A1,getElem?_cons_succ->A2
open Nat renaming zero_add->A3
open Int renaming eq_ofNat_of_zero_le->A4
open Go.Value renaming slice->A0
open Go.Proofs.Tryz
namespace Go.Proofs.YthcmmoibpgcgaaaGreatDoor
open Go.RowKit Kx
variable {ad base:Nat}{k:Kx.Kernel}{w:World}{um ui ue uc:Value}
theorem v_ {m:List (List Int)} {r:Nat} (h:(Kx.walk m r ad).2=0):∃ (f:Nat) (b:Bool),f<12/\Kx.walk m r ad=(((f:Int),((ad % 4:Nat):Int),b),0):=by
 unfold Kx.walk at h ⊢;split at h
 ·simp at h
 rename_i t a ht
 split at h
 ·simp at h
 rename_i f b hf
 have hf':Kx.entry (Kx.word m t (ad / 4 % 4))=some (f,b):=hf;exact ⟨f,a&&b,dU hf',rfl⟩
theorem IL {c:Kx.Call} (h:az k=true) (ad r:Nat) (hca:c.a=ad) (had:ad<64) (hr:(au k.ah c.env.toNat).root=r) (hb:(c.kind==11&&!Kx.bK c.b 0 9999)=false) :
  Kx.access k c=(if (Kx.walk k.mem r ad).2≠0 then (k,0,3) else if c.kind=11/\(Kx.walk k.mem r ad).1.2.2=false then (k,0,1)
   else if c.kind=11 then ({ k with cache:=je k c (Kx.walk k.mem r ad).1.1 (Kx.walk k.mem r ad).1.2.2,mem:=Kx.bG k.mem (Kx.walk k.mem r ad).1.1.toNat (ad % 4) c.b },0,0)
   else ({ k with cache:=je k c (Kx.walk k.mem r ad).1.1 (Kx.walk k.mem r ad).1.2.2 },Kx.word k.mem (Kx.walk k.mem r ad).1.1.toNat (ad % 4),0)):=by
 have hin:Kx.bK c.a 0 63=true:=by rw [Kx.ay];omega
 have hp:=Kx.Ok.place (nN.1 h) (env:=c.env) hin;rw [hr,hca] at hp;simp only [Int.toNat_natCast] at hp;have hm:(c.a % 4).toNat=ad % 4:=by omega
 unfold Kx.access;rw [hin,hr,hb,hm,hca];obtain ⟨⟨⟨pf,pw⟩,pc⟩,hpe⟩:∃ x,Kx.placeOf k c.env (ad:Int)=x:=⟨_,rfl⟩;rw [hpe] at hp ⊢;obtain ⟨h1,h2⟩:=hp;simp only at h1 h2;subst h1;rw [if_neg (by simp)]
 by_cases h0:(Kx.walk k.mem r ad).2=0
 ·have:=h2 h0
  simp only [Prod.mk.injEq] at this;obtain ⟨rfl,rfl⟩:=this;rfl
 simp only [if_pos h0]
theorem Cj (h:az k=true) {e r i pg:Nat} (had:ad<64) (EU:ad / 4=pg) (hr:(au k.ah e).root=r) (hi:iW k.cache e pg=some i) :
  i<k.cache.length/\(Kx.walk k.mem r ad).2=0/\(k.cache.getD i Kx.Cached.zero).frame=(Kx.walk k.mem r ad).1.1/\(k.cache.getD i Kx.Cached.zero).write=(Kx.walk k.mem r ad).1.2.2:=by
 have hp:=Kx.Ok.place (nN.1 h) (env:=(e:Int)) (ad:=(ad:Int)) (by rw [Kx.ay];omega);have e1:((ad:Int) / 4)=(pg:Int):=by omega
 have e2:Kx.placeOf k e ad=(((k.cache.getD i Kx.Cached.zero).frame,(k.cache.getD i Kx.Cached.zero).write),0):=by unfold Kx.placeOf;rw [e1,hi]
 rw [e2] at hp;simp only [Int.toNat_natCast] at hp;rw [hr] at hp;simp only [Int.toNat_natCast] at hp;have h2:=hp.2 trivial;simp only [Prod.mk.injEq] at h2;exact ⟨(yS hi).1,hp.1.symm,h2.1,h2.2⟩
theorem KW:Box? 105:=⟨by decide,by decide,by decide,by decide,by decide,by decide⟩
theorem kq {W:World} {g0 g1 g2 g3:Nat} {t0 t1 t2:Nat} {l0 l1 l2 l3:List Value} (i:Nat) (v:Value) (h0:g0≠g3) (h1:g1≠g3) (h2:g2≠g3) (hg:base<=g3/\w.heap.size<=g3) (X0:TI (BX W g0 t0 l0)) (X1:TI (BX W g1 t1 l1)) (X2:TI (BX W g2 t2 l2)) (X3:TI (BX W g3 105 l3)) (HO:TI (KO W base um ui ue uc k)) (Bw:TI (Kept base w W)) :
  TI (BX (W.setCell ⟨g3,i,none⟩ v) g0 t0 l0)/\TI (BX (W.setCell ⟨g3,i,none⟩ v) g1 t1 l1)/\TI (BX (W.setCell ⟨g3,i,none⟩ v) g2 t2 l2)/\TI (BX (W.setCell ⟨g3,i,none⟩ v) g3 105 (l3.set i v))/\TI (KO (W.setCell ⟨g3,i,none⟩ v) base um ui ue uc k)/\TI (Kept base w (W.setCell ⟨g3,i,none⟩ v)):=
 ⟨X0.o.other h0 i v,X1.o.other h1 i v,X2.o.other h2 i v,X3.o.set i v,HO.o.box X3.o KW i v,Bw.o.new hg i v⟩
theorem KO.wordAt (h:KO w base um ui ue uc k) (hm:bW k.mem=true) {f a:Nat} (hf:f<12) (ha:a<4) :
  ∃ b cap g cap',um=A0 (some ⟨b,0,none⟩) k.mem.length cap/\w.cell? ⟨b,f,none⟩=some (A0 (some ⟨g,0,none⟩) 4 cap')/\w.cell? ⟨g,a,none⟩=some (I_ (Kx.word k.mem f a))/\(∃ cs,w.heap[b]?=some (.cells cs 29 (0,0)))/\∃ cs,w.heap[g]?=some (.cells cs 3 (0,0)):=by
 obtain ⟨h12,hr4,_⟩:=mem_row hm hf;obtain ⟨b,cap,g,cap',rfl,h1,_,_,h2,_,_,_⟩:=h.bG (f:=f) (a:=a) (by omega) (by omega);rw [hr4] at h1;obtain ⟨b2,o2,c2,b3,o3,c3,ev,h3,h4,_⟩:=h.m.rm.word hm hf ha;obtain ⟨⟨rfl,rfl,_⟩,_,rfl⟩:=Zb ev;clear ev;rw [A3,h1] at h3;simp only [Option.some.injEq,Value.slice.injEq,Addr.mk.injEq] at h3;obtain ⟨⟨rfl,rfl,_⟩,_,rfl⟩:=h3;rw [A3] at h4;obtain ⟨ss,hl,ho,_,_⟩:=h.m;exact ⟨b,cap,g,cap',rfl,h1,h4,ho.1.kind (g:=b) rfl,h2⟩
theorem wZ (W:World) (g:Nat) (a b c d:Value) (p:Addr) (h:p.block≠g):((((W.setCell ⟨g,0,none⟩ a).setCell ⟨g,1,none⟩ b).setCell ⟨g,2,none⟩ c).setCell ⟨g,3,none⟩ d).cell? p=W.cell? p:=
 (World.cell?_of_block (Below.heap_setCell _ ⟨g,3,none⟩ d p.block h)).trans ((World.cell?_of_block (Below.heap_setCell _ ⟨g,2,none⟩ c p.block h)).trans ((World.cell?_of_block (Below.heap_setCell _ ⟨g,1,none⟩ b p.block h)).trans (World.cell?_of_block (Below.heap_setCell _ ⟨g,0,none⟩ a p.block h))))
theorem BX.c3 {g:Nat} {t:TypeId} {a b c:Value} (h:BX w g t [a,b,c]):w.cell? ⟨g,0,none⟩=some a/\w.cell? ⟨g,1,none⟩=some b/\w.cell? ⟨g,2,none⟩=some c/\w.frozen? ⟨g,0,none⟩=false/\w.frozen? ⟨g,1,none⟩=false/\w.frozen? ⟨g,2,none⟩=false:=⟨h.cell 0,h.cell 1,h.cell 2,h.frozen 0,h.frozen 1,h.frozen 2⟩
theorem w_ (k:Kx.Kernel) (c:Kx.Call) (e:Nat) (base:Nat) (um ui ue uc:Value) (w:World) (h:KO w base um ui ue uc k) (hbase:base<=w.heap.size) (hok:az k=true) (hs:iQ k) (hce:c.env=e) (he:e<3) :
  Calls prog 227 #[.agg #[um,ui,ue,uc],dW c] w (vk base w (Kx.access k c)):=by
 obtain ⟨bQ,JF,ca,cb,cc,bg⟩:=c;simp only at hce;subst hce;obtain ⟨am,cm,ai,ci,ae,ce,ac,cq,w0,w1,w2,rfl,rfl,rfl,rfl,hw0,hw1,hw2,X0,X1,X2,Bw,HO,s0,s1,s2⟩:=pF h hbase bQ e ca cb cc bg;obtain ⟨hmo,jI,h12,hco,h3,hro⟩:=aI hok;have kG:=af hmo;have MX:=af hro;have QY:=af hco;have nM:=af jI;have fJ:=af h12;have H3:=af h3;have bF:=af hok;have Hs:=af hs;have aC:=af hbase;clear h hok hs hmo jI h12 hco h3 hro;obtain ⟨bad,hbad⟩:∃ bad:Bool,(!Kx.bK ca 0 63||decide ((au k.ah e).root<0)||(bQ==11&&!Kx.bK cb 0 9999))=bad:=⟨_,rfl⟩;have HV:=af (show bad=true->Kx.access k ⟨bQ,e,ca,cb,cc,bg⟩=(k,0,3) from fun hb=>by unfold Kx.access;rw [<-hbad] at hb;exact if_pos hb)
 have HE:=af (IL (k:=k) (c:=⟨bQ,e,ca,cb,cc,bg⟩) bF.o);obtain ⟨be,oe,VN,ur,ev,hbel,_,q1,_⟩:=HO.o.e.re.at (k:=e) (by have:=H3.o;omega);obtain ⟨rfl,_,rfl⟩:=Za ev;clear ev;have PG:(e:Int)<(k.ah.length:Int):=by have:=H3.o;omega
 have TS:=af (MX.o e he);obtain ⟨rt,hrt⟩:=XP ((au k.ah e).root);rw [hrt] at q1 hbad TS;obtain ⟨c0,c1,c2,c3,c4,c5⟩:=X1.o.c6;obtain ⟨p0,p1,p2,p3⟩:=X0.o.c4;unfold dW;go_enter func227,ntmps227;go_upto_region 2 with fail;clear q1;go_cut [37] from 12 (fun s wx=>s=.bool bad/\wx=w2)
 case first =>
  cases hin:Kx.bK ca 0 63 with
  | false =>
   have Hb0:=af (show bad=true by rw [<-hbad,hin];rfl);have jR:=af hin;clear hbad hin;go_wp2_with fail;refine (kC _ _).mono ?_;rintro en w3 ⟨rfl,rfl⟩;rw [jR.o];go_wp2_with fail;go_meet;exact ⟨by rw [Hb0.o],rfl⟩
  | true =>
   have jR:=af hin
   by_cases hr0:rt<0
   ·have Hb0:=af (show bad=true by rw [<-hbad,hin,decide_eq_true hr0];rfl);clear hbad hin;go_wp2_with fail;refine (kC _ _).mono ?_;rintro en w3 ⟨rfl,rfl⟩;rw [jR.o];go_wp2_with fail;go_meet;exact ⟨by rw [Hb0.o],rfl⟩
   have Hb0:=af (show bad=(bQ==11&&!Kx.bK cb 0 9999) by rw [<-hbad,hin,decide_eq_false hr0];rfl);have YZ:=af (decide_eq_false hr0);clear hbad hin
   cases h11:(bQ==11) with
   | false =>
    have Hb1:=af (show bad=false by rw [Hb0.o,h11];rfl);go_wp2_with fail;refine (kC _ _).mono ?_;rintro en w3 ⟨rfl,rfl⟩;rw [jR.o];go_wp2_with fail;go_meet;exact ⟨by rw [Hb1.o,YZ.o],rfl⟩
   | true =>
    have Hb1:=af (show bad=!Kx.bK cb 0 9999 by rw [Hb0.o,h11];rfl);go_wp2_with fail;refine (kC _ _).mono ?_;rintro en w3 ⟨rfl,rfl⟩;rw [jR.o];go_wp2_with fail;refine (dJ _ _ _ _).mono ?_;rintro en w3 ⟨rfl,rfl⟩;go_wp2_with fail;go_meet;exact ⟨by rw [Hb1.o,YZ.o,Bool.false_or],rfl⟩
 case rest =>
  obtain ⟨rfl,rfl⟩:=hcut;obtain ⟨wd,hwd⟩:∃ wd,wd=wc:=⟨_,rfl⟩;subst hwd
  cases bad with
  | true =>
   have HF:=af (HV.o rfl);clear HV HE hbad p0 p1 p2 p3 c0 c1 c2 c3 c4 c5;obtain ⟨p0,p1,p2,p3⟩:=X0.o.c4;obtain ⟨r0,r1,r2,r3⟩:=X2.o.c4;obtain ⟨jh,ji,jk,jl⟩:=X2.o.f4;go_wp2_with fail;exact afj HF.o X2.o Bw.o aC.o fun _ a b c d=>by simp [results,results227,go_sem,a,b,c,d]
  | false =>
   simp only [Bool.or_eq_false_iff,Bool.not_eq_false',decide_eq_false_iff_not] at hbad;obtain ⟨a0,a63⟩:=Kx.ay.1 hbad.1.1;obtain ⟨r,rfl⟩:=A4 (show 0<=rt by have:=hbad.1.2;omega);obtain ⟨ad,rfl⟩:=A4 a0;have had:ad<64:=by omega
   have D_:r<12:=by have:=TS.o;omega
   have HV:=af (HE.o ad r rfl had hrt hbad.2);have UL:=af (show bQ=11->0<=cb/\cb<=9999 from fun hh=>by
    have:=hbad.2
    rw [hh] at this;exact Kx.ay.1 (by simpa using this))
   have OZ:=af (fun (i:Nat)=>Cj (e:=e) (ad:=ad) (r:=r) (i:=i) bF.o had rfl hrt)
   clear HE hbad a0 a63 hrt;obtain ⟨pg,EU⟩:=XP (ad / 4);obtain ⟨a4,Y3⟩:=XP (ad % 4);have epg:(ad:Int) / 4=(pg:Int):=by omega
   have ea4:(ad:Int) % 4=(a4:Int):=by omega
   have TT:a4<4:=by omega
   simp only [Y3] at HV;have yT:=af (v_ (m:=k.mem) (r:=r) (ad:=ad));rw [Y3] at yT;have HW0:=af (fun (W:World) (hm:RM W (A0 am k.mem.length cm) k.mem)=>uy k.mem r ad _ W hm kG.o D_ had)
   obtain ⟨PP,Y4⟩:=XP (Kx.walk k.mem r ad);rw [Y4] at HV yT OZ HW0;clear Y4;obtain ⟨⟨pf,pa,pw⟩,pc⟩:=PP;replace HV:=af (show Kx.access k ⟨bQ,e,ad,cb,cc,bg⟩=(if pc≠0 then (k,0,3) else if bQ=11/\pw=false then (k,0,1)
    else if bQ=11 then ({ k with cache:=je k ⟨bQ,e,ad,cb,cc,bg⟩ pf pw,mem:=Kx.bG k.mem pf.toNat a4 cb },0,0)
    else ({ k with cache:=je k ⟨bQ,e,ad,cb,cc,bg⟩ pf pw },Kx.word k.mem pf.toNat a4,0)) from HV.o)
   replace OZ:=af (show ∀ i,iW k.cache e (ad / 4:Nat)=some i->i<k.cache.length/\pc=0/\(k.cache.getD i Kx.Cached.zero).frame=pf/\(k.cache.getD i Kx.Cached.zero).write=pw from OZ.o);replace yT:=af (show pc=0->∃ (f:Nat) (b:Bool),f<12/\((((pf,pa,pw),pc):(Int×Int×Bool)×Int)=(((f:Int),(a4:Int),b),0)) from yT.o);have Y5:=af (yt k.cache e pg _ wd HO.o.c.rs);go_wp2_with fail;refine Y5.o.mono ?_;rintro en w3 ⟨rfl,rfl⟩;clear Y5;obtain ⟨w3,hw3⟩:=XP (wd.alloc (.cells #[I_ 0,I_ 0,.bool false] 105));have hb:Below wd.heap.size wd w3:=hw3 ▸ dm;have X3:=af (show BX w3 wd.heap.size 105 [I_ 0,I_ 0,.bool false] from hw3 ▸ BX.new wd _ _);have n2:w1.heap.size<wd.heap.size:=X2.o.lt;have hbc:base<=wd.heap.size/\w.heap.size<=wd.heap.size:=by have:=aC.o;omega
   obtain ⟨f0,f1,f2,f3,f4,f5⟩:=X3.o.c3;clear p0 p1 p2 p3 c0 c1 c3 c4 c5;obtain ⟨X0,X1,X2,HO,Bw,zz⟩:=ru hb aC.o s0 X0 X1 X2 HO Bw;clear hb zz;obtain ⟨c0,c1,c2,c3,c4,c5⟩:=X1.o.c6;obtain ⟨X0,X1,X2,X3,HO,Bw⟩:=kq 0 (I_ 0) (by omega) (by omega) (by omega) hbc X0 X1 X2 X3 HO Bw;obtain ⟨X0,X1,X2,X3,HO,Bw⟩:=kq 1 (I_ a4) (by omega) (by omega) (by omega) hbc X0 X1 X2 X3 HO Bw;obtain ⟨X0,X1,X2,X3,HO,Bw⟩:=kq 2 (.bool false) (by omega) (by omega) (by omega) hbc X0 X1 X2 X3 HO Bw;obtain ⟨W6,MF⟩:=XP (((w3.setCell ⟨wd.heap.size,0,none⟩ (I_ 0)).setCell ⟨wd.heap.size,1,none⟩ (I_ a4)).setCell ⟨wd.heap.size,2,none⟩ (.bool false));rw [MF] at X0 X1 X2 X3 HO Bw;replace X3:=af (show BX W6 wd.heap.size 105 [I_ 0,I_ a4,.bool false] from X3.o);rw [EU] at OZ;go_upto_if 52 with fail;clear MF f0 f1 f2 f3 f4 f5 c0 c1 c2 c3 c4 c5 hw3
   go_cut [8,10,11] from 12 (fun s8 s10 s11 wx=>s8=I_ (xM k.cache e pg)/\TI (M_ w wx base w.heap.size w0.heap.size w1.heap.size (A0 am k.mem.length cm) (A0 ai k.ag.length ci) (A0 (some ⟨be,oe,none⟩) k.ah.length ce) (A0 ac k.cache.length cq) [I_ bQ,I_ e,I_ ad,I_ cb,I_ cc,.string bg] [A0 none 0 0,A0 none 0 0,A0 none 0 0,A0 none 0 0] k)/\TI (BX wx wd.heap.size 105 [I_ pf,I_ a4,.bool pw])/\pc=0)
   case first =>
    cases hcf:iW k.cache e pg with
    | some i =>
     obtain ⟨hil,hpz,hfr,hwr⟩:=OZ.o i hcf;have KX:=af (show xM k.cache e pg=i by unfold xM;rw [hcf]);rw [KX.o];have hiI:(i:Int)<(k.cache.length:Int):=by omega
     obtain ⟨b7,o7,k7,ev,aaP,_,_,g2,g3⟩:=dZ.at HO.o.c.rs hil;obtain ⟨rfl,_,rfl⟩:=Za ev;clear ev;rw [hfr] at g2;rw [hwr] at g3;have p3:=X0.o.cell 3;obtain ⟨f0,f1,f2,f3,f4,f5⟩:=X3.o.c3;obtain ⟨X0,X1,X2,X3,HO,Bw⟩:=kq 0 (I_ pf) (by omega) (by omega) (by omega) hbc X0 X1 X2 X3 HO Bw;obtain ⟨W7,Iq⟩:=XP (W6.setCell ⟨wd.heap.size,0,none⟩ (I_ pf));rw [Iq] at X0 X1 X2 X3 HO Bw;replace X3:=af (show BX W7 wd.heap.size 105 [I_ pf,I_ a4,.bool false] from X3.o);obtain ⟨_,_,_,ev,_,_,_,_,g3'⟩:=dZ.at HO.o.c.rs hil;obtain ⟨⟨rfl,rfl,_⟩,_,rfl⟩:=Zb ev;clear ev;rw [hwr] at g3';have p3':=X0.o.cell 3;obtain ⟨f0',f1',f2',f3',f4',f5'⟩:=X3.o.c3;simp only [A1,A2] at p3 p3'
     obtain ⟨X0,X1,X2,X3,HO,Bw⟩:=kq 2 (.bool pw) (by omega) (by omega) (by omega) hbc X0 X1 X2 X3 HO Bw;have Hpz:=af hpz;clear OZ hcf hfr hwr hpz;go_wp2_with fail;go_meet;exact ⟨by rw [KX.o],af ⟨X0.o,X1.o,X2.o,HO.o,Bw.o⟩,af X3.o,Hpz.o⟩
    | none =>
     have KX:=af (show xM k.cache e pg=-1 by unfold xM;rw [hcf]);rw [KX.o];have HW:=af (HW0.o W6 HO.o.m.rm);obtain ⟨p0,p1,p2,p3⟩:=X0.o.c4;obtain ⟨c0,c1,c2,c3,c4,c5⟩:=X1.o.c6;clear OZ hcf;go_wp2_with fail;refine HW.o.mono ?_;rintro en w7 ⟨rfl,hb⟩;unfold kM;clear p0 p1 p2 p3 c0 c1 c2 c3 c4 c5 HW;replace X3:=af (X3.o.below hb);obtain ⟨X0,X1,X2,HO,Bw,zz⟩:=ru hb aC.o s0 X0 X1 X2 HO Bw;clear hb zz;obtain ⟨w8,hw8⟩:=XP (w7.alloc (.cells #[I_ 0,I_ 0,.bool false] 105));have hb:Below w7.heap.size w7 w8:=hw8 ▸ dm;have X4:=af (show BX w8 w7.heap.size 105 [I_ 0,I_ 0,.bool false] from hw8 ▸ BX.new w7 _ _);have n3:wd.heap.size<w7.heap.size:=X3.o.lt;have hb7:base<=w7.heap.size/\w.heap.size<=w7.heap.size:=by omega
     obtain ⟨f0,f1,f2,f3,f4,f5⟩:=X4.o.c3;replace X3:=af (X3.o.below hb);obtain ⟨X0,X1,X2,HO,Bw,zz⟩:=ru hb aC.o s0 X0 X1 X2 HO Bw;clear hb zz;obtain ⟨X0,X1,X2,X4,HO,Bw⟩:=kq 0 (I_ pf) (by omega) (by omega) (by omega) hb7 X0 X1 X2 X4 HO Bw;replace X3:=af (X3.o.other (g':=w7.heap.size) (by omega) 0 (I_ pf));obtain ⟨X0,X1,X2,X4,HO,Bw⟩:=kq 1 (I_ pa) (by omega) (by omega) (by omega) hb7 X0 X1 X2 X4 HO Bw;replace X3:=af (X3.o.other (g':=w7.heap.size) (by omega) 1 (I_ pa));obtain ⟨X0,X1,X2,X4,HO,Bw⟩:=kq 2 (.bool pw) (by omega) (by omega) (by omega) hb7 X0 X1 X2 X4 HO Bw;replace X3:=af (X3.o.other (g':=w7.heap.size) (by omega) 2 (.bool pw));obtain ⟨W9,t_⟩:=XP (((w8.setCell ⟨w7.heap.size,0,none⟩ (I_ pf)).setCell ⟨w7.heap.size,1,none⟩ (I_ pa)).setCell ⟨w7.heap.size,2,none⟩ (.bool pw));rw [t_] at X0 X1 X2 X3 X4 HO Bw
     replace X4:=af (show BX W9 w7.heap.size 105 [I_ pf,I_ pa,.bool pw] from X4.o)
     by_cases h0:pc=0
     ·have Hpa:=af (show pa=a4 by
       obtain ⟨f,b,_,hpe⟩:=yT.o h0;simp only [Prod.mk.injEq] at hpe;exact hpe.1.2.1)
      have Y6:=af h0;have UI:(pc != 0)=false:=by simpa using h0
      clear h0;obtain ⟨v0,v1,v2,_,_,_⟩:=X4.o.c3;obtain ⟨y0,y1,y2,y3,y4,y5⟩:=X3.o.c3;obtain ⟨X0,X1,X2,X3,HO,Bw⟩:=kq 0 (I_ pf) (by omega) (by omega) (by omega) hbc X0 X1 X2 X3 HO Bw;obtain ⟨X0,X1,X2,X3,HO,Bw⟩:=kq 1 (I_ pa) (by omega) (by omega) (by omega) hbc X0 X1 X2 X3 HO Bw;obtain ⟨X0,X1,X2,X3,HO,Bw⟩:=kq 2 (.bool pw) (by omega) (by omega) (by omega) hbc X0 X1 X2 X3 HO Bw;go_wp2_with fail;go_meet;exact ⟨by rw [KX.o],af ⟨X0.o,X1.o,X2.o,HO.o,Bw.o⟩,af (by rw [<-Hpa.o];exact X3.o),Y6.o⟩
     have HF:=af (show Kx.access k ⟨bQ,e,ad,cb,cc,bg⟩=(k,0,3) by rw [HV.o,if_pos h0]);clear HW0;have UI:(pc != 0)=true:=by simpa using h0
     have Y6:=af h0;clear h0;obtain ⟨p0,p1,p2,p3⟩:=X0.o.c4;obtain ⟨r0,r1,r2,r3⟩:=X2.o.c4;obtain ⟨jh,ji,jk,jl⟩:=X2.o.f4;go_wp2_with fail;exact afj HF.o X2.o Bw.o aC.o fun _ a b c d=>by simp [results,results227,go_sem,a,b,c,d]
   case rest =>
    obtain ⟨rfl,hst,hx3,hpc⟩:=hcut;clear X0 X1 X2 X3 HO Bw;obtain ⟨X0,X1,X2,HO,Bw⟩:=hst.o.parts;have X3:=hx3;clear hst hx3;obtain ⟨f,dG,Xn⟩:∃ f:Nat,f<12/\pf=f:=by
     obtain ⟨f,b,h1,hpe⟩:=yT.o hpc;simp only [Prod.mk.injEq] at hpe;exact ⟨f,h1,hpe.1.1⟩
    replace HV:=af (show Kx.access k ⟨bQ,e,ad,cb,cc,bg⟩=(if (bQ==11&&!pw)=true then (k,0,1)
     else if bQ=11 then (⟨Kx.bG k.mem f a4 cb,k.ag,k.ah,je k ⟨bQ,e,ad,cb,cc,bg⟩ f pw⟩,0,0)
     else (⟨k.mem,k.ag,k.ah,je k ⟨bQ,e,ad,cb,cc,bg⟩ f pw⟩,Kx.word k.mem f a4,0)) by
     rw [HV.o,if_neg (by rw [hpc];simp),Xn]
     by_cases h11:bQ=11
     ·cases pw <;> simp [h11]
     simp [h11])
    rw [Xn] at X3;clear Xn;have Hc4:=af (show k.cache.length<=1000 from Nat.le_trans (jq.1 QY.o).2.2 (by decide));clear yT hpc OZ;obtain ⟨deny,yU⟩:=XP (bQ==11&&!pw);rw [yU] at HV;obtain ⟨y0,y1,y2,y3,y4,y5⟩:=X3.o.c3;obtain ⟨p0,p1,p2,p3⟩:=X0.o.c4;obtain ⟨c0,c1,c2,c3,c4,c5⟩:=X1.o.c6;go_upto_region 13 with fail;go_cut [87] from 12 (fun s wx=>s=.bool deny/\wx=wc)
    case first =>
     cases h11:(bQ==11) with
     | false =>
      have Hd:=af (show deny=false by rw [<-yU,h11];rfl);clear yU;go_wp2_with fail;go_meet;exact ⟨by rw [Hd.o],rfl⟩
     | true =>
      have Hd:=af (show deny=!pw by rw [<-yU,h11];rfl);clear yU;go_wp2_with fail;go_meet;exact ⟨by rw [Hd.o],rfl⟩
    case rest =>
     obtain ⟨rfl,rfl⟩:=hcut
     cases deny with
     | true =>
      have HF:=af (show Kx.access k ⟨bQ,e,ad,cb,cc,bg⟩=(k,0,1) by rw [HV.o,if_pos rfl]);clear HV yU y0 y1 y2 y3 y4 y5 p0 p1 p2 p3 c0 c1 c2 c3 c4 c5;obtain ⟨p0,p1,p2,p3⟩:=X0.o.c4;obtain ⟨r0,r1,r2,r3⟩:=X2.o.c4;obtain ⟨jh,ji,jk,jl⟩:=X2.o.f4;go_wp2_with fail;exact afj HF.o X2.o Bw.o aC.o fun _ a b c d=>by simp [results,results227,go_sem,a,b,c,d]
     | false =>
      have HV:=af (by have:=HV.o;rw [if_neg (by decide)] at this;exact this);obtain ⟨ca,hca⟩:=XP (je k ⟨bQ,e,ad,cb,cc,bg⟩ f pw);rw [hca] at HV;clear yU;go_upto_if 90 with fail;go_cut [8] from 12 (fun s8 wx=>s8=I_ (xM k.cache e pg)/\∃ aq cz,TI (M_ w wx base w.heap.size w0.heap.size w1.heap.size (A0 am k.mem.length cm) (A0 ai k.ag.length ci) (A0 (some ⟨be,oe,none⟩) k.ah.length ce) (A0 aq ca.length cz) [I_ bQ,I_ e,I_ ad,I_ cb,I_ cc,.string bg] [A0 none 0 0,A0 none 0 0,A0 none 0 0,A0 none 0 0] { k with cache:=ca })/\TI (BX wx wd.heap.size 105 [I_ f,I_ a4,.bool pw]))
      case first =>
       have Vd:=af (show ca=match iW k.cache e pg with | some _=>k.cache | none=>qp k.cache ⟨e,pg,f,pw⟩ by
        rw [<-hca];unfold je;simp only [epg];rfl)
       clear hca
       cases hcf:iW k.cache e pg with
       | some i =>
        have KX:=af (show xM k.cache e pg=i by unfold xM;rw [hcf]);have Xo:=af (show ca=k.cache by rw [Vd.o,hcf]);rw [KX.o];clear hcf Vd;go_wp2_with fail;go_meet;exact ⟨by rw [KX.o],_,_,by rw [Xo.o];exact af ⟨X0.o,X1.o,X2.o,HO.o,Bw.o⟩,X3⟩
       | none =>
        have KX:=af (show xM k.cache e pg=-1 by unfold xM;rw [hcf]);have Xo:=af (show qp k.cache ⟨e,pg,f,pw⟩=ca by rw [Vd.o,hcf]);have HP:=af (Gx k.cache ⟨e,pg,f,pw⟩ _ wc HO.o.c.rs Hc4.o);rw [Xo.o] at HP;rw [KX.o];clear hcf Vd;go_wp2_with fail;refine HP.o.mono ?_;rintro en w8 ⟨u8,rfl,xE,hb⟩;obtain ⟨a8,c8,rfl,_,_⟩:=RS.val xE.rs;have z7:=Bw.o.size;have O8:=af xE;clear xE HP y0 y1 y2 y3 y4 y5 p0 p1 p2 p3 c0 c1 c2 c3 c4 c5;replace X3:=af (X3.o.below hb);obtain ⟨X0,X1,X2,HO,Bw,zz⟩:=ru hb aC.o s0 X0 X1 X2 HO Bw;clear hb zz;have HK:=af (show KO w8 base _ _ _ (A0 a8 ca.length c8) { k with cache:=ca } from ⟨HO.o.m,HO.o.i,HO.o.e,O8.o.mono (by have:=aC.o;omega)⟩);have hz3:=X0.o.cell 3;have hf3:=X0.o.frozen 3;simp only [A1,A2] at hz3
        have X3':=af (X3.o.other (g':=w.heap.size) (by omega) 3 (A0 a8 ca.length c8));obtain ⟨X0,X1,X2,HK,Bw⟩:=JP (A0 a8 ca.length c8) (by omega) (by omega) (by have:=aC.o;omega) X0 X1 X2 HK Bw;clear HO O8;go_wp2_with fail;go_meet;exact ⟨by rw [KX.o],_,_,af ⟨X0.o,X1.o,X2.o,HK.o,Bw.o⟩,X3'⟩
      case rest =>
       obtain ⟨rfl,aq,cz,hst,hx3⟩:=hcut;clear X0 X1 X2 X3 HO Bw y0 y1 y2 y3 y4 y5 p0 p1 p2 p3 c0 c1 c2 c3 c4 c5;obtain ⟨X0,X1,X2,HO,Bw⟩:=hst.o.parts;have X3:=hx3;clear hst hx3;obtain ⟨y0,y1,y2,y3,y4,y5⟩:=X3.o.c3;obtain ⟨p0,p1,p2,p3⟩:=X0.o.c4;obtain ⟨c0,c1,c2,c3,c4,c5⟩:=X1.o.c6;obtain ⟨uk,hr4,_⟩:=mem_row kG.o dG;have kX:=af uk;have Oz:=af hr4;have Wj:(f:Int)<(k.mem.length:Int):=by omega
       have aaV:(a4:Int)<4:=by omega
       clear uk hr4
       by_cases h11:bQ=11
       ·have HF:=af (show Kx.access k ⟨bQ,e,ad,cb,cc,bg⟩=(⟨Kx.bG k.mem f a4 cb,k.ag,k.ah,ca⟩,0,0) by rw [HV.o,if_pos h11]);have Xp:(bQ==11)=true:=by simpa using h11
        clear HV h11 hca;obtain ⟨W9,t_⟩:=XP wc.drew;have hb:Below wc.heap.size wc W9:=t_ ▸ Below.bz fZ;obtain ⟨bm,TB,g,cg,eu,hrow,hgb,TC,⟨Jq,hgk⟩,⟨z,hz⟩,hfz,hset⟩:=(HO.o.below hb).bG (f:=f) (a:=a4) (by show f<k.mem.length;rw [kX.o];exact dG) (by show a4<(Kx.row k.mem f).length;rw [Oz.o];exact TT);change W9.cell? _=some (A0 _ (Kx.row k.mem f).length _) at hrow;change Value.slice _ k.mem.length _=A0 _ k.mem.length _ at eu;rw [Oz.o] at hrow;obtain ⟨rfl,_,rfl⟩:=Za eu;clear eu;have hset:=af (hset cb);have hrow0:wc.cell? ⟨bm,f,none⟩=some (A0 (some ⟨g,0,none⟩) 4 cg):=by rw [<-t_] at hrow;exact hrow
        have Ir:=af t_;clear t_;go_wp2_with fail;go_still_tail 11,(by kernel_rfl)
        change wpList _ _ _ _ _ wc.drew;rw [Ir.o];obtain ⟨X0,X1,X2,Bw⟩:=yD a4 (I_ cb) hgk (by decide) (by decide) hgb (af (X0.o.below hb)) (af (X1.o.below hb)) (af (X2.o.below hb)) (af (Bw.o.go hb aC.o));clear Ir p0 p1 p2 p3 c0 c1 c2 c3 c4 c5 y0 y1 y2 y3 y4 y5;obtain ⟨p0,p1,p2,p3⟩:=X0.o.c4;obtain ⟨r0,r1,r2,r3⟩:=X2.o.c4;obtain ⟨jh,ji,jk,jl⟩:=X2.o.f4;go_wp2_with fail;exact afk HF.o X2.o Bw.o aC.o hset.o fun _ a b c d=>by simp [results,results227,go_sem,a,b,c,d]
       have HF:=af (show Kx.access k ⟨bQ,e,ad,cb,cc,bg⟩=(⟨k.mem,k.ag,k.ah,ca⟩,Kx.word k.mem f a4,0) by rw [HV.o,if_neg h11]);have Xp:(bQ==11)=false:=by simpa using h11
       clear HV h11 hca;obtain ⟨W9,t_⟩:=XP wc.drew;have hb:Below wc.heap.size wc W9:=t_ ▸ Below.bz fZ;obtain ⟨bm,TB,g,cg,ev,hcm,hwd,⟨csb,hkb⟩,⟨Jq,hkg⟩⟩:=(HO.o.below hb).wordAt kG.o (f:=f) (a:=a4) dG TT;change Value.slice _ k.mem.length _=A0 _ k.mem.length _ at ev;obtain ⟨rfl,_,rfl⟩:=Za ev;clear ev;change W9.cell? _=some (I_ (Kx.word k.mem f a4)) at hwd;obtain ⟨wv,hwv⟩:=XP (Kx.word k.mem f a4);rw [hwv] at HF hwd;clear hwv p0 p1 p2 p3 c1 c2 c3 c4 c5 y0 y1 y2 y3 y4 y5;replace X3:=af (X3.o.below hb);obtain ⟨X0,X1,X2,HO,Bw,zz⟩:=ru hb aC.o s0 X0 X1 X2 HO Bw;clear hb zz;have HF:=HF;have q0:=(X2.o.ne hkb (by decide)).symm;have q1:=(X2.o.ne hkg (by decide)).symm;obtain ⟨p0,p1,p2,p3⟩:=X0.o.c4;obtain ⟨y0,y1,y2,y3,y4,y5⟩:=X3.o.c3;obtain ⟨r0,r1,r2,r3⟩:=X2.o.c4;obtain ⟨jh,ji,jk,jl⟩:=X2.o.f4
       have n3:w1.heap.size≠wd.heap.size:=by omega
       have S0:W9.cell? ⟨w.heap.size,0,none⟩=some (A0 (some ⟨bm,0,none⟩) k.mem.length cm)/\W9.cell? ⟨w.heap.size,1,none⟩=some (A0 ai k.ag.length ci)/\W9.cell? ⟨w.heap.size,2,none⟩=some (A0 (some ⟨be,oe,none⟩) k.ah.length ce)/\W9.cell? ⟨w.heap.size,3,none⟩=some (A0 aq ca.length cz)/\W9.cell? ⟨wd.heap.size,0,none⟩=some (I_ f)/\W9.cell? ⟨wd.heap.size,1,none⟩=some (I_ a4)/\W9.cell? ⟨bm,f,none⟩=some (A0 (some ⟨g,0,none⟩) 4 cg)/\W9.cell? ⟨g,a4,none⟩=some (I_ wv):=⟨p0,p1,p2,p3,y0,y1,hcm,hwd⟩
       have S1:=af (fun (a b c d:Value)=>show ((((W9.setCell ⟨w1.heap.size,0,none⟩ a).setCell ⟨w1.heap.size,1,none⟩ b).setCell ⟨w1.heap.size,2,none⟩ c).setCell ⟨w1.heap.size,3,none⟩ d).cell? ⟨w.heap.size,0,none⟩=some (A0 (some ⟨bm,0,none⟩) k.mem.length cm)/\((((W9.setCell ⟨w1.heap.size,0,none⟩ a).setCell ⟨w1.heap.size,1,none⟩ b).setCell ⟨w1.heap.size,2,none⟩ c).setCell ⟨w1.heap.size,3,none⟩ d).cell? ⟨w.heap.size,1,none⟩=some (A0 ai k.ag.length ci)/\((((W9.setCell ⟨w1.heap.size,0,none⟩ a).setCell ⟨w1.heap.size,1,none⟩ b).setCell ⟨w1.heap.size,2,none⟩ c).setCell ⟨w1.heap.size,3,none⟩ d).cell? ⟨w.heap.size,2,none⟩=some (A0 (some ⟨be,oe,none⟩) k.ah.length ce)/\((((W9.setCell ⟨w1.heap.size,0,none⟩ a).setCell ⟨w1.heap.size,1,none⟩ b).setCell ⟨w1.heap.size,2,none⟩ c).setCell ⟨w1.heap.size,3,none⟩ d).cell? ⟨w.heap.size,3,none⟩=some (A0 aq ca.length cz)/\((((W9.setCell ⟨w1.heap.size,0,none⟩ a).setCell ⟨w1.heap.size,1,none⟩ b).setCell ⟨w1.heap.size,2,none⟩ c).setCell ⟨w1.heap.size,3,none⟩ d).cell? ⟨wd.heap.size,0,none⟩=some (I_ f)/\((((W9.setCell ⟨w1.heap.size,0,none⟩ a).setCell ⟨w1.heap.size,1,none⟩ b).setCell ⟨w1.heap.size,2,none⟩ c).setCell ⟨w1.heap.size,3,none⟩ d).cell? ⟨wd.heap.size,1,none⟩=some (I_ a4)/\((((W9.setCell ⟨w1.heap.size,0,none⟩ a).setCell ⟨w1.heap.size,1,none⟩ b).setCell ⟨w1.heap.size,2,none⟩ c).setCell ⟨w1.heap.size,3,none⟩ d).cell? ⟨bm,f,none⟩=some (A0 (some ⟨g,0,none⟩) 4 cg)/\((((W9.setCell ⟨w1.heap.size,0,none⟩ a).setCell ⟨w1.heap.size,1,none⟩ b).setCell ⟨w1.heap.size,2,none⟩ c).setCell ⟨w1.heap.size,3,none⟩ d).cell? ⟨g,a4,none⟩=some (I_ wv) from ⟨(wZ _ _ _ _ _ _ _ (by show w.heap.size≠w1.heap.size;omega)).trans p0,(wZ _ _ _ _ _ _ _ (by show w.heap.size≠w1.heap.size;omega)).trans p1,(wZ _ _ _ _ _ _ _ (by show w.heap.size≠w1.heap.size;omega)).trans p2,(wZ _ _ _ _ _ _ _ (by show w.heap.size≠w1.heap.size;omega)).trans p3,(wZ _ _ _ _ _ _ _ (by show wd.heap.size≠w1.heap.size;omega)).trans y0,(wZ _ _ _ _ _ _ _ (by show wd.heap.size≠w1.heap.size;omega)).trans y1,(wZ _ _ _ _ _ _ _ q0).trans hcm,(wZ _ _ _ _ _ _ _ q1).trans hwd⟩)
       have Ir:=af t_;clear t_;go_upto_region 20 with fail;refine wp_region_held_drew (S:=(fun wz=>wz.cell? ⟨w.heap.size,0,none⟩=some (A0 (some ⟨bm,0,none⟩) k.mem.length cm)/\wz.cell? ⟨w.heap.size,1,none⟩=some (A0 ai k.ag.length ci)/\wz.cell? ⟨w.heap.size,2,none⟩=some (A0 (some ⟨be,oe,none⟩) k.ah.length ce)/\wz.cell? ⟨w.heap.size,3,none⟩=some (A0 aq ca.length cz)/\wz.cell? ⟨wd.heap.size,0,none⟩=some (I_ f)/\wz.cell? ⟨wd.heap.size,1,none⟩=some (I_ a4)/\wz.cell? ⟨bm,f,none⟩=some (A0 (some ⟨g,0,none⟩) 4 cg)/\wz.cell? ⟨g,a4,none⟩=some (I_ wv))) (by kernel_rfl) (by rw [Ir.o];exact S0) (fun hHeld=>?_)
       rw [Ir.o];rw [Ir.o] at hHeld;clear Ir;refine afW 0 ?_;refine afU 8 ?_;refine tH 10 ?_;refine ahk 11 fun K hK=>?_
       (go_simp)
       refine hK.out _ _ ?_ (fun hHeld=>?_)
       ·first | assumption | exact S1.o _ _ _ _
       clear hK K;refine nH ?_;refine afU 12 ?_;refine wpAnyH_done (by kernel_rfl) ?_ _;go_wp2_with fail;exact afk HF.o X2.o Bw.o aC.o HO.o fun _ a b c d=>by simp [results,results227,go_sem,a,b,c,d]
end Go.Proofs.YthcmmoibpgcgaaaGreatDoor
