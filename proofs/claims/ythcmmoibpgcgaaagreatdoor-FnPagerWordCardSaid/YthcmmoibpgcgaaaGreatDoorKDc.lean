/- KD12, KD13, KD14, KD15, joined. -/
import Derived.Test.YthcmmoibpgcgaaaGreatDoorKX
import Derived.Test.YthcmmoibpgcgaaaGreatDoorKWb
import Derived.Test.YthcmmoibpgcgaaaGreatDoorKD11
set_option maxHeartbeats 8000000
set_option maxRecDepth 100000
set_option linter.all false
open List renaming getElem_mem->A1
open Nat renaming zero_le->A2,le_refl->A3,le_succ_of_le->A4
open Int renaming eq_ofNat_of_zero_le->A5
open Option.some renaming injEq->A6
open Go.Value renaming slice->A0
open Go.Proofs.Tryz
namespace Go.Proofs.YthcmmoibpgcgaaaGreatDoor
open Go.RowKit Kx
variable {rb:Nat}{w:World}
theorem afR {p:Nat} (n:Int) (h:RD w rb p) (hp:p<=1000000:=by omega) (hn:1<=n:=by omega) (hn2:n<=1000000:=by omega):Calls prog 81 #[.pointer (some ⟨rb,0,none⟩),I_ n] w (Qq rb p n w):=aN rb p n w h hp hn hn2
theorem RP.sl {um ui ue uc us ul up:Value} {p:aH} (h:RP w um ui ue uc us ul up p):Sl um/\Sl ui/\Sl ue/\Sl uc/\Sl us/\Sl ul/\Sl up:=by
 obtain ⟨_,a1,c1,e1,_,_⟩:=h.k.m.len;obtain ⟨a2,c2,e2,_,_⟩:=RS.val h.k.i;obtain ⟨_,a3,c3,e3,_,_⟩:=h.k.e.len;obtain ⟨a4,c4,e4,_,_⟩:=RS.val h.k.c;obtain ⟨_,a5,c5,e5,_,_⟩:=h.s.len;obtain ⟨a6,c6,e6⟩:=h.l.val;obtain ⟨a7,c7,e7,_,_⟩:=RS.val h.g;exact ⟨⟨_,_,_,e1⟩,⟨_,_,_,e2⟩,⟨_,_,_,e3⟩,⟨_,_,_,e4⟩,⟨_,_,_,e5⟩,⟨_,_,_,e6⟩,⟨_,_,_,e7⟩⟩
theorem BN (p:aH) (n:Nat) (um ui ue uc us ul up:Value) (w:World) (h:RP w um ui ue uc us ul up p) (hok:bI p=true) (hn:n<16) :
  Calls prog 240 #[bU um ui ue uc us ul up p.hand p.limit,I_ n] w (Gs w (gq p n).1 [.bool (gq p n).2]):=by
 obtain ⟨⟨xm,nm,cm,rfl⟩,⟨xi,ni,ci,rfl⟩,⟨xe,ne,ce,rfl⟩,⟨xc,nc,cc,rfl⟩,⟨xs,ns,cs,rfl⟩,⟨xl,nl,cl,rfl⟩,⟨xp,np,cp,rfl⟩⟩:=h.sl;unfold bU;obtain ⟨w0,hw0⟩:=XP (w.alloc (.cells #[A0 xm nm cm,A0 xi ni ci,A0 xe ne ce,A0 xc nc cc,A0 xs ns cs,A0 xl nl cl,A0 xp np cp,I_ p.hand,I_ p.limit] 32));obtain ⟨w1,hw1⟩:=XP (w0.alloc (.cells #[A0 none 0 0,A0 none 0 0,A0 none 0 0,A0 none 0 0,A0 none 0 0,A0 none 0 0,A0 none 0 0,I_ 0,I_ 0] 32));have B0:Below w.heap.size w w0:=hw0 ▸ dm;have B1:Below w0.heap.size w0 w1:=hw1 ▸ dm;have bw:Below w.heap.size w w1:=B0.trans (B1.mono B0.size)
 have X1:=af (show BX w1 w.heap.size 32 [A0 xm nm cm,A0 xi ni ci,A0 xe ne ce,A0 xc nc cc,A0 xs ns cs,A0 xl nl cl,A0 xp np cp,I_ p.hand,I_ p.limit] from (hw0 ▸ BX.new w _ _:BX w0 _ _ _).below B1);have X2:=af (show BX w1 w0.heap.size 32 [A0 none 0 0,A0 none 0 0,A0 none 0 0,A0 none 0 0,A0 none 0 0,A0 none 0 0,A0 none 0 0,I_ 0,I_ 0] from (hw1 ▸ BX.new w0 _ _:BX w1 _ _ _));have s0:w.heap.size<w0.heap.size:=by rw [<-hw0];simp
 have s1:w0.heap.size<w1.heap.size:=by rw [<-hw1];simp
 have HR:=af h;have Bw:=af bw;have bF:=af hok;have Hk:=af (fM hok).1;have HV:=af (n_ p _ _ _ _ _ _ _ w1 (h.below bw) (jX (fM hok).1));rw [hok] at HV;unfold bU at HV;obtain ⟨rr,hrr⟩:=XP (Kx.touch p n);have jR:=af (show Kx.bK (n:Int) 0 15=true from Kx.ay.2 (by omega));have HT:=af (show gq p n=if rr.2 then rr else (p,false) by unfold gq;rw [hok,jR.o,show ((n:Int)).toNat=n from rfl,hrr];rfl);have Ol:=af hrr;have Hn:=af hn;clear h hok hn hrr B0 B1 bw;have z0:=X1.o.c9;go_enter func240,ntmps240;go_wp2_with fail;refine HV.o.mono ?_;rintro en w2 ⟨rfl,hb⟩;replace X1:=af (X1.o.below hb);replace X2:=af (X2.o.below hb);replace Bw:=af (Bw.o.trans (hb.mono Bw.o.size));have Tc:=hb.size;clear hw0 hw1 hb HV z0;go_wp2_with fail
 refine (dJ _ _ _ _).mono ?_;rintro en w3 ⟨rfl,rfl⟩;rw [jR.o];have HC:=af (Aq p _ _ _ _ _ _ _ w2 (HR.o.below Bw.o) bF.o);unfold bU at HC;have z0:=X1.o.c9;go_wp2_with fail;refine HC.o.mono ?_;rintro en w4 ⟨_,_,_,_,_,_,_,rfl,ho,hb⟩;obtain ⟨⟨a0,Ar,Au,rfl⟩,⟨a1,Aw,Az,rfl⟩,⟨a2,AA,AB,rfl⟩,⟨a3,AL,AO,rfl⟩,⟨a4,an4,am4,rfl⟩,⟨a5,an5,am5,rfl⟩,⟨a6,an6,am6,rfl⟩⟩:=ho.sl;replace X1:=af (X1.o.below hb);replace X2:=af (X2.o.below hb);replace Bw:=af (Bw.o.trans (hb.mono Bw.o.size));have Z9:=hb.size;have PZ:=af (Ol.o ▸ Fj p n w2.heap.size _ _ _ _ _ _ _ w4 ho hb.size bF.o Hn.o);unfold bU at PZ;clear hb ho HC z0;go_wp2_with fail;refine PZ.o.mono ?_;rintro en w5 ⟨hkp,_,_,_,_,_,_,_,hd,lm,rfl,hsl,hpo⟩
 obtain ⟨⟨k0,sK,sN,rfl⟩,⟨k1,sO,sQ,rfl⟩,⟨k2,sS,sU,rfl⟩,⟨k3,sV,sW,rfl⟩,⟨k4,pU,pV,rfl⟩,⟨k5,pW,km5,rfl⟩,⟨k6,pX,pY,rfl⟩⟩:=hsl;obtain ⟨w6,hw6⟩:=XP (w5.alloc (.cells #[A0 k0 sK sN,A0 k1 sO sQ,A0 k2 sS sU,A0 k3 sV sW,A0 k4 pU pV,A0 k5 pW km5,A0 k6 pX pY,I_ hd,I_ lm] 32));have B6:Below w5.heap.size w5 w6:=hw6 ▸ dm;have X6:=af (show BX w6 w5.heap.size 32 [A0 k0 sK sN,A0 k1 sO sQ,A0 k2 sS sU,A0 k3 sV sW,A0 k4 pU pV,A0 k5 pW km5,A0 k6 pX pY,I_ hd,I_ lm] from hw6 ▸ BX.new w5 _ _);replace X1:=af ((hkp.x _ _ _ (.inl rfl) X1.o).below B6);replace X2:=af ((hkp.x _ _ _ (.inl rfl) X2.o).below B6);have bk:Below w.heap.size w w5:=Bw.o.trans (hkp.b.mono (show w.heap.size<=w2.heap.size by omega));replace Bw:=af (bk.trans (B6.mono bk.size));have VP:=af hpo;unfold bU
 go_upto_region 4 with fail
 try rw [hw6]
 cases hr2:rr.2 with
 | true =>
  have HF:=af (show gq p n=rr by rw [HT.o,hr2];rfl);obtain ⟨hhd,hlm,hop⟩:=VP.o hr2;have HP:=af (hop.below B6);have xG:=af hr2;subst hhd hlm;clear hkp hpo hop bk B6 hw6 hr2 VP;have z0:=X6.o.c9;obtain ⟨p0,p1,p2,p3,p4,p5,p6,p7,p8⟩:=X2.o.c9;have f0:=X2.o.f9;go_wp2_with fail;obtain ⟨F,hF⟩:=XP (sets w6 w0.heap.size 0 [A0 k0 sK sN,A0 k1 sO sQ,A0 k2 sS sU,A0 k3 sV sW,A0 k4 pU pV,A0 k5 pW km5,A0 k6 pX pY,I_ rr.1.hand,I_ rr.1.limit])
  rw [afC w6,hF];have x2:=X2.o.ac4 hF
  have b1:=adT (by omega) hF Bw.o;have p1:=HP.o.ac4 X2.o (.inl rfl) hF;rw [hF] at p1;rw [hF] at x2 b1;refine af7 (by simp [results,results240,go_sem,x2.c9]<;>rfl) ?_;rw [HF.o,xG.o]
  exact ⟨_,_,_,_,_,_,_,rfl,(p1.mono (show w.heap.size<=w2.heap.size by omega)).UG,b1⟩
 | false =>
  have HF:=af (show gq p n=(p,false) by rw [HT.o,hr2];rfl);have hk6:=Bw.o;have HC:=af (Aq p _ _ _ _ _ _ _ w6 (HR.o.below hk6) bF.o);unfold bU at HC;clear hkp hpo bk B6 hw6 hr2 VP hk6 X6 PZ;have z0:=X1.o.c9;go_wp2_with fail;refine HC.o.mono ?_;rintro en w7 ⟨_,_,_,_,_,_,_,rfl,ho,hb⟩;obtain ⟨⟨t0,vF,vG,rfl⟩,⟨t1,vH,vI,rfl⟩,⟨t2,vJ,vK,rfl⟩,⟨t3,vM,vN,rfl⟩,⟨t4,vO,vP,rfl⟩,⟨t5,vS,vT,rfl⟩,⟨t6,vU,vV,rfl⟩⟩:=ho.sl;replace X2:=af (X2.o.below hb);have P5:=Bw.o.size;replace Bw:=af (Bw.o.trans (hb.mono Bw.o.size));have HP:=af ho;clear hb ho HC X1 z0;obtain ⟨p0,p1,p2,p3,p4,p5,p6,p7,p8⟩:=X2.o.c9;have f0:=X2.o.f9;go_wp2_with fail
  obtain ⟨F,hF⟩:=XP (sets w7 w0.heap.size 0 [A0 t0 vF vG,A0 t1 vH vI,A0 t2 vJ vK,A0 t3 vM vN,A0 t4 vO vP,A0 t5 vS vT,A0 t6 vU vV,I_ p.hand,I_ p.limit]);rw [afC w7,hF];have x2:=X2.o.ac4 hF
  have b1:=adT (by omega) hF Bw.o;have p1:=HP.o.ac4 X2.o (.inl rfl) hF;rw [hF] at p1;rw [hF] at x2 b1;refine af7 (by simp [results,results240,go_sem,x2.c9]<;>rfl) ?_;rw [HF.o];exact ⟨_,_,_,_,_,_,_,rfl,(p1.mono P5).UG,b1⟩
theorem FB {p:aH} (hok:bI p=true) {n:Nat} (hn:n<16):bI (gq p n).1=true:=
 iD.2 ((iD.1 hok).touched (Kx.ay.2 (by omega)))
theorem BO (p:aH) (a:Nat) (wd:Int) (um ui ue uc us ul up:Value) (w:World) (h:RP w um ui ue uc us ul up p) (hok:bI p=true) (ha:a<64) (hwd:Kx.bK wd 0 9999=true) :
  Calls prog 193 #[bU um ui ue uc us ul up p.hand p.limit,I_ a,I_ wd] w (Gs w (iM p a wd).1 [.bool (iM p a wd).2]):=by
 obtain ⟨⟨xm,nm,cm,rfl⟩,⟨xi,ni,ci,rfl⟩,⟨xe,ne,ce,rfl⟩,⟨xc,nc,cc,rfl⟩,⟨xs,ns,cs,rfl⟩,⟨xl,nl,cl,rfl⟩,⟨xp,np,cp,rfl⟩⟩:=h.sl;unfold bU;obtain ⟨w0,hw0⟩:=XP (w.alloc (.cells #[A0 xm nm cm,A0 xi ni ci,A0 xe ne ce,A0 xc nc cc,A0 xs ns cs,A0 xl nl cl,A0 xp np cp,I_ p.hand,I_ p.limit] 32));obtain ⟨w1,hw1⟩:=XP (w0.alloc (.cells #[A0 none 0 0,A0 none 0 0,A0 none 0 0,A0 none 0 0,A0 none 0 0,A0 none 0 0,A0 none 0 0,I_ 0,I_ 0] 32));have B0:Below w.heap.size w w0:=hw0 ▸ dm;have B1:Below w0.heap.size w0 w1:=hw1 ▸ dm;have bw:Below w.heap.size w w1:=B0.trans (B1.mono B0.size)
 have X1:=af (show BX w1 w.heap.size 32 [A0 xm nm cm,A0 xi ni ci,A0 xe ne ce,A0 xc nc cc,A0 xs ns cs,A0 xl nl cl,A0 xp np cp,I_ p.hand,I_ p.limit] from (hw0 ▸ BX.new w _ _:BX w0 _ _ _).below B1);have X2:=af (show BX w1 w0.heap.size 32 [A0 none 0 0,A0 none 0 0,A0 none 0 0,A0 none 0 0,A0 none 0 0,A0 none 0 0,A0 none 0 0,I_ 0,I_ 0] from (hw1 ▸ BX.new w0 _ _:BX w1 _ _ _));have s0:w.heap.size<w0.heap.size:=by rw [<-hw0];simp
 have s1:w0.heap.size<w1.heap.size:=by rw [<-hw1];simp
 have HR:=af h;have Bw:=af bw;have bF:=af hok;have Hk:=af (fM hok).1;have HV:=af (n_ p _ _ _ _ _ _ _ w1 (h.below bw) (jX (fM hok).1));rw [hok] at HV;unfold bU at HV;have jR:=af (show Kx.bK (a:Int) 0 63=true from Kx.ay.2 (by omega));have Z_:=af hwd;obtain ⟨q4,hq4⟩:=XP (a / 4);have Td:=af (show q4<16 by omega);have P6:(a:Int).tdiv 4=(q4:Int):=by rw [Int.tdiv_eq_ediv_of_nonneg (by omega)];omega
 have DL:(a:Int) / 4=(q4:Int):=by omega
 have hwq:IntKind.i64.wrap (q4:Int)=(q4:Int):=IntWalk.i64_in _ (by omega);obtain ⟨rr,hrr⟩:=XP (gq p (q4:Int));have JV:=af (show bI rr.1=true from hrr ▸ FB hok Td.o);obtain ⟨rk,hrk⟩:=XP (bJ rr.1.k 11 (a:Int) wd 0);have HT:=af (show iM p a wd=if rr.2=false then rr else ({ rr.1 with k:=rk.1 },true) by
  unfold iM;rw [hok,jR.o,hwd,DL,hrr];show (if (!rr.2)=true then rr else ({ rr.1 with k:=(bJ rr.1.k 11 (a:Int) wd 0).1 },true))=_;rw [hrk]
  cases rr.2 <;> rfl)
 have Ol:=af hrr;have Om:=af hrk;clear h hok hwd hrr hrk B0 B1 bw hq4;obtain ⟨z0,z1,z2,z3,z4,z5,z6,z7,z8⟩:=X1.o.c9;go_enter func193,ntmps193;go_wp2_with fail;refine HV.o.mono ?_;rintro en w2 ⟨rfl,hb⟩;replace X1:=af (X1.o.below hb);replace X2:=af (X2.o.below hb);replace Bw:=af (Bw.o.trans (hb.mono Bw.o.size));have Tc:=hb.size;clear hw0 hw1 hb HV z0 z1 z2 z3 z4 z5 z6 z7 z8;go_wp2_with fail;refine (kC _ _).mono ?_;rintro en w3 ⟨rfl,rfl⟩;rw [jR.o];go_wp2_with fail;refine (dJ _ _ _ _).mono ?_;rintro en w3 ⟨rfl,rfl⟩;rw [Z_.o];have PZ:=af (Ol.o ▸ BN p q4 _ _ _ _ _ _ _ w2 (HR.o.below Bw.o) bF.o Td.o);unfold bU at PZ;obtain ⟨z0,z1,z2,z3,z4,z5,z6,z7,z8⟩:=X1.o.c9;go_wp2_with fail;refine PZ.o.mono ?_;rintro en w5 ⟨_,_,_,_,_,_,_,rfl,hro,hb⟩
 obtain ⟨⟨k0,sK,sN,rfl⟩,⟨k1,sO,sQ,rfl⟩,⟨k2,sS,sU,rfl⟩,⟨k3,sV,sW,rfl⟩,⟨k4,pU,pV,rfl⟩,⟨k5,pW,km5,rfl⟩,⟨k6,pX,pY,rfl⟩⟩:=hro.rp.sl;obtain ⟨w6,hw6⟩:=XP (w5.alloc (.cells #[A0 k0 sK sN,A0 k1 sO sQ,A0 k2 sS sU,A0 k3 sV sW,A0 k4 pU pV,A0 k5 pW km5,A0 k6 pX pY,I_ rr.1.hand,I_ rr.1.limit] 32));have B6:Below w5.heap.size w5 w6:=hw6 ▸ dm;have X6:=af (show BX w6 w5.heap.size 32 [A0 k0 sK sN,A0 k1 sO sQ,A0 k2 sS sU,A0 k3 sV sW,A0 k4 pU pV,A0 k5 pW km5,A0 k6 pX pY,I_ rr.1.hand,I_ rr.1.limit] from hw6 ▸ BX.new w5 _ _);have JI:=X2.o.lt;have aab:=hb.size;replace X2:=af ((X2.o.below hb).below B6);have bk:Below w.heap.size w w5:=Bw.o.trans (hb.mono Bw.o.size);have aac:=Bw.o.size;replace Bw:=af (bk.trans (B6.mono bk.size));have mW:=af hro;have JW:=af B6
 clear PZ hro hb bk X1 B6 z0 z1 z2 z3 z4 z5 z6 z7 z8 P6 DL hwq;unfold bU;go_upto_region 4 with fail
 try rw [hw6]
 clear hw6;have Fq:w0.heap.size≠w5.heap.size:=by omega
 cases hr2:rr.2 with
 | false =>
  have HF:=af (show iM p a wd=rr by rw [HT.o,hr2];rfl);have xG:=af hr2;clear hr2;obtain ⟨z0,z1,z2,z3,z4,z5,z6,z7,z8⟩:=X6.o.c9;obtain ⟨p0,p1,p2,p3,p4,p5,p6,p7,p8⟩:=X2.o.c9;obtain ⟨f0,f1,f2,f3,f4,f5,f6,f7,f8⟩:=X2.o.f9;go_wp2_with fail;obtain ⟨F,hF⟩:=XP (sets w6 w0.heap.size 0 [A0 k0 sK sN,A0 k1 sO sQ,A0 k2 sS sU,A0 k3 sV sW,A0 k4 pU pV,A0 k5 pW km5,A0 k6 pX pY,I_ rr.1.hand,I_ rr.1.limit])
  rw [afC w6,hF];have x2:=X2.o.ac4 hF
  have b1:=adT (by omega) hF Bw.o;have u1:=(Up.of (base:=w2.heap.size) JW.o).trans (Up.sets (base:=w2.heap.size) JI [A0 k0 sK sN,A0 k1 sO sQ,A0 k2 sS sU,A0 k3 sV sW,A0 k4 pU pV,A0 k5 pW km5,A0 k6 pX pY,I_ rr.1.hand,I_ rr.1.limit] 0 w6);rw [hF] at u1;rw [hF] at x2 b1;refine af7 (by simp [results,results193,go_sem,x2.c9]<;>rfl) ?_
  rw [HF.o,xG.o];exact ⟨_,_,_,_,_,_,_,rfl,fun V hu=>mW.o V (u1.trans ⟨hu.1,fun k h1 h2=>hu.2 k (by omega) h2⟩),b1⟩
 | true =>
  have HF:=af (show iM p a wd=({ rr.1 with k:=rk.1 },true) by rw [HT.o,hr2];rfl);have Yv:=af (Om.o ▸ gW rr.1.k 11 (a:Int) wd 0 _ _ _ _ w6 (mW.o.up (Up.of JW.o)).rp.k (fM JV.o).1);clear hr2;obtain ⟨z0,z1,z2,z3,z4,z5,z6,z7,z8⟩:=X6.o.c9;go_wp2_with fail;refine Yv.o.mono ?_;rintro en w7 ⟨_,_,_,_,rfl,ho,hb⟩;obtain ⟨⟨e0,en0,eQ,rfl⟩,⟨e1,eU,eX,rfl⟩,⟨e2,eY,fA,rfl⟩,⟨e3,fB,fC,rfl⟩⟩:=ho.sl;obtain ⟨w8,hw8⟩:=XP (w7.alloc (.cells #[A0 e0 en0 eQ,A0 e1 eU eX,A0 e2 eY fA,A0 e3 fB fC] 28));have B8:Below w7.heap.size w7 w8:=hw8 ▸ dm;have DN:=af (show BX w8 w7.heap.size 28 [A0 e0 en0 eQ,A0 e1 eU eX,A0 e2 eY fA,A0 e3 fB fC] from hw8 ▸ BX.new w7 _ _);have Tf:=hb.trans (B8.mono hb.size);have P5:=JW.o.size;have HK:=af (ho.below B8);replace X6:=af (X6.o.below Tf)
  replace X2:=af (X2.o.below Tf);have aad:=Bw.o.size;replace Bw:=af (Bw.o.trans (Tf.mono Bw.o.size));have VQ:=af (JW.o.trans (Tf.mono P5));clear Yv ho hb B8 Tf z0 z1 z2 z3 z4 z5 z6 z7 z8;go_upto_region 7 with fail
  try rw [hw8]
  clear hw8;obtain ⟨p0,p1,p2,p3⟩:=DN.o.c4;obtain ⟨z0,z1,z2,z3,z4,z5,z6,z7,z8⟩:=X6.o.c9;obtain ⟨f0,f1,f2,f3,f4,f5,f6,f7,f8⟩:=X6.o.f9;go_upto_region 8 with fail;have y6:=oK X6.o (A0 e0 en0 eQ) (A0 e1 eU eX) (A0 e2 eY fA) (A0 e3 fB fC);obtain ⟨w9,JX⟩:=XP (sets w8 w5.heap.size 0 [A0 e0 en0 eQ,A0 e1 eU eX,A0 e2 eY fA,A0 e3 fB fC]);have y2:=BX.aeY Fq JX X2.o;have k1:=KO.ac4 iZ JX X6.o HK.o;have b1:=adT (by omega) JX Bw.o;have b5:=adT (A3 w5.heap.size) JX VQ.o;
  rw [JX] at y6 y2 k1 b1 b5;rw [afA w8,JX];replace X6:=af y6;replace X2:=af y2;replace HK:=af k1;replace Bw:=af b1;replace VQ:=af b5;clear y6 y2 k1 b1 b5 JX p0 p1 p2 p3 z0 z1 z2 z3 z4 z5 z6 z7 z8 f0 f1 f2 f3 f4 f5 f6 f7 f8 DN;obtain ⟨z0,z1,z2,z3,z4,z5,z6,z7,z8⟩:=X6.o.c9;obtain ⟨p0,p1,p2,p3,p4,p5,p6,p7,p8⟩:=X2.o.c9;obtain ⟨f0,f1,f2,f3,f4,f5,f6,f7,f8⟩:=X2.o.f9;go_wp2_with fail;obtain ⟨F,hF⟩:=XP (sets w9 w0.heap.size 0 [A0 e0 en0 eQ,A0 e1 eU eX,A0 e2 eY fA,A0 e3 fB fC,A0 k4 pU pV,A0 k5 pW km5,A0 k6 pX pY,I_ rr.1.hand,I_ rr.1.limit])
  rw [afC w9,hF];have x2:=X2.o.ac4 hF
  have b1:=adT (by omega) hF Bw.o;have u1:=(Up.of (base:=w2.heap.size) VQ.o).trans (Up.sets (base:=w2.heap.size) JI [A0 e0 en0 eQ,A0 e1 eU eX,A0 e2 eY fA,A0 e3 fB fC,A0 k4 pU pV,A0 k5 pW km5,A0 k6 pX pY,I_ rr.1.hand,I_ rr.1.limit] 0 w9);have k1:=KO.ac4 iZ hF X2.o HK.o;rw [hF] at u1 k1;rw [hF] at x2 b1;refine af7 (by simp [results,results193,go_sem,x2.c9]<;>rfl) ?_;rw [HF.o];exact ⟨_,_,_,_,_,_,_,rfl,fun V hu=>⟨((k1.mono (show w.heap.size<=w6.heap.size by omega)).up hu).rk,(mW.o V (u1.trans ⟨hu.1,fun k h1 h2=>hu.2 k (by omega) h2⟩)).s,(mW.o V (u1.trans ⟨hu.1,fun k h1 h2=>hu.2 k (by omega) h2⟩)).l,(mW.o V (u1.trans ⟨hu.1,fun k h1 h2=>hu.2 k (by omega) h2⟩)).g⟩,b1⟩
def nP (rb p n:Nat) (w w':World):Prop:=∃ q,q<=p+n/\RD w' rb q/\w.grownBy w' (some rb)
theorem grown_below {w':World} (h:Below w.heap.size w w') (hos:w'.os=w.os/\w'.tape=w.tape/\w'.output=w.output):w.grownBy w' (some rb):=⟨hos.1,hos.2.1,hos.2.2,h.size,fun k h1 _=>h.block k h1⟩
theorem JY (rb p:Nat) (l:List Kx.Str) (v:Value) (w:World) (h:RD w rb p) (hp:p<=900000) (hl:dK w v l) (h1:1<=l.length) (h2:l.length<=1000) (hne:∀ a n c,v=A0 (some a) n c->a.block≠rb) :
  Calls prog 158 #[.pointer (some ⟨rb,0,none⟩),v] w fun e w'=>∃ s ∈ l,e=.returned (.string s)/\RD w' rb (p+1)/\w.grownBy w' (some rb):=by
 obtain ⟨b,off,cap,ev,hbl,hc⟩:=dK.at hl (k:=0) (by omega);have hb:b≠rb:=hne _ _ _ ev;subst ev;have Hl:=af hl;have kQ:(1:Int)<=(l.length:Int):=by omega
 clear hc hl hne;go_enter func158,ntmps158;go_wp2_with fail;refine (aN rb p l.length _ h (by omega) kQ (by omega)).mono ?_;rintro e w1 ⟨x,rfl,x0,x1,hr,hg⟩;obtain ⟨n,rfl⟩:=A5 x0;obtain ⟨b2,mP,cap2,ev,Ig,hc⟩:=dK.at Hl.o (k:=n) (by omega);obtain ⟨⟨rfl,rfl,_⟩,_,rfl⟩:=Zb ev;clear ev;have g0:=(World.cell?_of_block (hg.block b hbl (by simpa using hb)) (a:=⟨b,off+n,none⟩)).trans hc;have hnl:n<l.length:=by omega
 have Hr:=af hr;have Hg:=af hg;have Hm:=af (A1 hnl);generalize l[n]=s at g0 Hm;clear hc hr hg;go_wp2_with fail;go_ret;exact ⟨s,Hm.o,rfl,Hr.o,Hg.o⟩
theorem lq (rb p:Nat) (l:List aG) (kd:Int) (vm vi ve vc:Value) (w:World) (h:RD w rb p) (hp:p<=900000) (hl:bV w vi l) (h12:l.length=12) :
  Calls prog 159 #[.pointer (some ⟨rb,0,none⟩),.agg #[vm,vi,ve,vc],I_ kd] w fun e w'=>∃ f:Nat,f<12/\e=.returned (I_ f)/\RD w' rb (p+1)/\w.grownBy w' (some rb):=by
 obtain ⟨ai,ci,rfl,_,_⟩:=RS.val hl;obtain ⟨w0,hw0⟩:=XP (w.alloc (.cells #[vm,A0 ai l.length ci,ve,vc] 28));have B0:=af (show Below w.heap.size w w0 from hw0 ▸ dm);have G0:=af (show w.grownBy w0 (some rb) from hw0 ▸ grownBy_alloc (World.grownBy.refl w (some rb)) _);have X0:=af (show BX w0 w.heap.size 28 [vm,A0 ai l.length ci,ve,vc] from hw0 ▸ BX.new w _ _);have hrb:=h.lt;have hsz0:w.heap.size<w0.heap.size:=by rw [<-hw0];simp
 have HR:=af (h.keep B0.o);have HL:=af (RS.below hl B0.o);have fJ:=af h12;clear h hl h12;go_enter func159,ntmps159;go_wp2_with fail;go_loopw [7,8] (fun out i wr=>∃ (j:Nat) (xs:List Nat),i=I_ j/\j<=l.length/\TI (xs.length<=j/\∀ x ∈ xs,x<12)/\TI (OI wr w0.heap.size out (fU xs))/\TI (Below w0.heap.size w0 wr)/\TI (w0.grownBy wr (some rb))) (fun _ i _=>l.length - (intOf i).toNat)
 case atStart=>exact ⟨0,[],rfl,A2 _,⟨A3 _,fun x hx=>by cases hx⟩,OI.d_ aW,fZ.alloc aW _,grownBy_alloc (World.grownBy.refl _ _) _⟩
 case round =>
  obtain ⟨j,xs,rfl,hj,hxs,ho,hb,hg⟩:=hrel;have X:=X0.o.below hb.o;have p1:=X.cell 1;simp only [List.getElem?_cons_zero,List.getElem?_cons_succ] at p1;clear X
  by_cases hlt:j<l.length
  ·have kQ:(j:Int)<(l.length:Int):=by omega
   obtain ⟨b,off,cap',ev,hbl,hc⟩:=RS.at (RS.below HL.o hb.o) (k:=j) hlt;obtain ⟨rfl,_,rfl⟩:=Za ev;clear ev;have g0:=hc 0 _ rfl;rw [Nat.add_zero] at g0;generalize l[j].kind=k0 at g0;have UH:=af (show j+1<=l.length by omega);have aae:j<12:=by have:=fJ.o;omega
   have hsz:=af hb.o.size;have hxl:=af (show (fU xs).length+1<=1099511627776 by rw [aQ];have:=hxs.o.1;have:=fJ.o;omega);clear hc
   by_cases hk:k0=kd
   ·subst hk;have Hn:=af (show (xs ++ [j]).length<=j+1/\∀ x ∈ xs ++ [j],x<12 from ⟨by rw [List.length_append];have:=hxs.o.1;simp;omega,fun x hx=>by
     rcases List.mem_append.1 hx with h | h
     ·exact hxs.o.2 x h
     have:=fJ.o;simp at h;omega⟩)
    go_wp2_with (at_builtin;refine kW rfl _ _ rfl w0.heap.size _ (fU xs) rfl (ho.o.alloc _) _ 1 1 [(j:Int)] rfl rfl (cell_one_new _ _ _) hxl.o (by simp;exact A4 hsz.o) ?_;intro v' w3 ho3 hg3;have jJ:=af ho3;have ql:=af hg3;clear ho3 hg3);go_roundw
    case rel =>
     refine ⟨j+1,xs ++ [j],by go_num,UH.o,Hn,?_,?_,?_⟩
     ·show OI _ _ _ _;rw [jv];exact jJ.o
     ·exact Below.app (hb.o.alloc hb.o.size _) (ho.o.alloc _) ql.o aW (by simp;exact A4 hsz.o)
     exact ed (grownBy_alloc hg.o _) ql.o (fun k hk=>((ho.o.alloc (.cells #[I_ j] 3)).lt k hk).1)
    case measure=>have:=UH.o;simp [intOf];omega
   have hkb:(k0==kd)=false:=by simpa using hk
   have Hn:=af (show xs.length<=j+1/\∀ x ∈ xs,x<12 from ⟨by have:=hxs.o.1;omega,hxs.o.2⟩);go_wp2_with fail;go_roundw
   case rel=>exact ⟨j+1,xs,by go_num,UH.o,Hn,ho,hb,hg⟩
   case measure=>have:=UH.o;simp [intOf];omega
  have hr2:=af (HR.o.keep hb.o);have hg2:=af (grownBy_trans G0.o hg.o);obtain ⟨a9,c9,e9⟩:=ho.o.ri.val;rw [aQ] at e9;subst e9
  by_cases hx0:xs.length=0
  ·have Hx0:=af hx0;rw [hx0];clear hx0;go_wp2_with fail;refine (afR 12 hr2.o).mono ?_;rintro e w1 ⟨x,rfl,x0,x1,hr,hgx⟩;obtain ⟨f,rfl⟩:=A5 x0;have Hr:=af hr;have Hg:=af (grownBy_trans hg2.o hgx);clear hr hgx;go_wp2_with fail;go_ret;exact ⟨f,by omega,rfl,Hr.o,Hg.o⟩
  have hxl:(1:Int)<=(xs.length:Int):=by omega
  have hxb:((xs.length:Int)==0)=false:=by simpa using hx0
  have sD:xs.length<=12:=by have:=hxs.o.1;have:=fJ.o;omega
  go_wp2_with fail;refine (aN rb p xs.length _ hr2.o (by omega) hxl (by omega)).mono ?_;rintro e w1 ⟨x,rfl,x0,x1,hr,hgx⟩;obtain ⟨i,rfl⟩:=A5 x0;have hi:i<xs.length:=by omega
  have Ho:=(ho.o.jT (rb:=rb) (by omega) hgx).ri;obtain ⟨b,off,cap',ev,hbl,hc⟩:=Ho.at (k:=i) (by rw [aQ];exact hi);rw [aQ] at ev;obtain ⟨rfl,_,rfl⟩:=Za ev;clear ev;have hv:(fU xs)[i]'(by rw [aQ];exact hi)=((xs[i]:Nat):Int):=by simp [fU]
  rw [hv] at hc;have Hf:=af (hxs.o.2 _ (A1 hi));generalize xs[i]=f at hc Hf;have Hr:=af hr;have Hg:=af (grownBy_trans hg2.o hgx);clear hr hgx hv Ho;go_wp2_with fail;go_ret;exact ⟨f,Hf.o,rfl,Hr.o,Hg.o⟩
def DR:List Kx.Str:=[⟨#[100]⟩,⟨#[65]⟩,⟨#[97,98,99,97,98]⟩,⟨#[97,32,98]⟩]
def yF:List Kx.Str:=[⟨#[]⟩,⟨#[97]⟩,⟨#[98]⟩,⟨#[99]⟩,⟨#[97,98]⟩,⟨#[97,97]⟩,⟨#[97,98,99]⟩,⟨#[98,97]⟩,⟨#[98]⟩,⟨#[97]⟩,⟨#[97,98,99,97]⟩,⟨#[97,99]⟩]
theorem pG (rb p:Nat) (w:World) (h:RD w rb p) (hp:p<=800000) :
  Calls prog 160 #[.pointer (some ⟨rb,0,none⟩)] w fun e w'=>∃ s:Kx.Str,s.size<=5/\e=.returned (.string s)/\nP rb p 2 w w':=by
 have hlt:=h.lt;go_enter func160,ntmps160;go_wp2_with fail;refine (afR 16 h).mono ?_;rintro e w1 ⟨x,rfl,x0,x1,hr,hg⟩;have hlt1:=hr.lt;have Hr:=af hr;have Hg:=af hg;have hz:=hg.size;clear hr hg h
 by_cases hx:x=0
 ·subst hx;have B1:Below w1.heap.size w1 (w1.alloc (.cells (flat df DR).toArray 9)):=dm;have HC:=af (JY rb (p+1) DR (A0 (some ⟨w1.heap.size,0,none⟩) 4 4) (w1.alloc (.cells (flat df DR).toArray 9)) (Hr.o.keep B1) (by omega) (OS.lit (l:=DR) (f:=df) (sz:=1) (e:=9) (w:=w1) (base:=0) (A2 _) _ rfl rfl (by decide)).rs (by decide) (by decide) (fun a n c e=>by simp only [Value.slice.injEq,A6] at e;obtain ⟨rfl,_⟩:=e;simp;omega));go_wp2_with fail;refine HC.o.mono ?_;rintro e w2 ⟨s,hs,rfl,hr,hg⟩;have Hs:=af (show s.size<=5 from (show ∀ s ∈ DR,s.size<=5 by decide) s hs);have Hw:=af (show nP rb p 2 w w2 from ⟨p+2,A3 _,hr,grownBy_trans (grownBy_alloc Hg.o _) hg⟩);clear hs hr hg HC;go_wp2_with fail;go_ret;exact ⟨s,Hs.o,rfl,Hw.o⟩
 have hxb:(x==0)=false:=by simpa using hx
 have B1:Below w1.heap.size w1 (w1.alloc (.cells (flat df yF).toArray 9)):=dm;have HC:=af (JY rb (p+1) yF (A0 (some ⟨w1.heap.size,0,none⟩) 12 12) (w1.alloc (.cells (flat df yF).toArray 9)) (Hr.o.keep B1) (by omega) (OS.lit (l:=yF) (f:=df) (sz:=1) (e:=9) (w:=w1) (base:=0) (A2 _) _ rfl rfl (by decide)).rs (by decide) (by decide) (fun a n c e=>by simp only [Value.slice.injEq,A6] at e;obtain ⟨rfl,_⟩:=e;simp;omega));clear hx;go_wp2_with fail;refine HC.o.mono ?_;rintro e w2 ⟨s,hs,rfl,hr,hg⟩;have Hs:=af (show s.size<=5 from (show ∀ s ∈ yF,s.size<=5 by decide) s hs);have Hw:=af (show nP rb p 2 w w2 from ⟨p+2,A3 _,hr,grownBy_trans (grownBy_alloc Hg.o _) hg⟩);clear hs hr hg HC;go_wp2_with fail;go_ret;exact ⟨s,Hs.o,rfl,Hw.o⟩
theorem abE (x:Int):IntKind.i64.wrap x<=9223372036854775807:=by
 rw [IntWalk.i64_left];unfold wrap64;omega
theorem yz (rb p:Nat) (w:World) (h:RD w rb p) (hp:p<=800000) :
  Calls prog 154 #[.pointer (some ⟨rb,0,none⟩)] w fun e w'=>∃ x:Int,e=.returned (I_ x)/\x<=9223372036854775807/\nP rb p 3 w w':=by
 have hlt:=h.lt;go_enter func154,ntmps154;go_wp2_with fail;refine (afR 8 h).mono ?_;rintro e w1 ⟨x,rfl,x0,x1,hr,hg⟩;have hlt1:=hr.lt;have Hr:=af hr;have Hg:=af hg;have hz:=hg.size;clear hr hg h
 by_cases h0:x=0
 ·subst h0;go_wp2_with fail;go_ret;exact ⟨_,rfl,by decide,p+1,by omega,Hr.o,Hg.o⟩
 by_cases h1:x=1
 ·subst h1;go_wp2_with fail;go_ret;exact ⟨_,rfl,by decide,p+1,by omega,Hr.o,Hg.o⟩
 have UI:(x==0)=false:=by simpa using h0
 have h1b:(x==1)=false:=by simpa using h1
 by_cases h2:x=2
 ·subst h2;clear h0 h1;have B1:Below w1.heap.size w1 (w1.alloc (.cells #[I_ (-1),I_ 2,I_ 47,I_ 48,I_ 49,I_ 9999,I_ 4] 3)):=dm;have HO:=af (OS.lit (l:=[-1,2,47,48,49,9999,4]) (f:=iR) (sz:=1) (e:=3) (w:=w1) (base:=w1.heap.size) aW #[I_ (-1),I_ 2,I_ 47,I_ 48,I_ 49,I_ 9999,I_ 4] rfl rfl (by decide)).oi;have HC:=af (aN rb (p+1) 7 (w1.alloc (.cells #[I_ (-1),I_ 2,I_ 47,I_ 48,I_ 49,I_ 9999,I_ 4] 3)) (Hr.o.keep B1) (by omega) (by omega) (by omega));go_wp2_with fail;refine HC.o.mono ?_;rintro e w2 ⟨y,rfl,y0,y1,hr,hg⟩;obtain ⟨n,rfl⟩:=A5 y0;obtain ⟨b,off,cap,ev,_,hc⟩:=(HO.o.jT (rb:=rb) (by omega) hg).ri.at (k:=n) (by simp;omega);obtain ⟨⟨rfl,rfl,_⟩,_,rfl⟩:=Zb ev;clear ev;have hzb:([-1,2,47,48,49,9999,4]:List Int)[n]'(by simp;omega)<=9999:=(show ∀ z ∈ ([-1,2,47,48,49,9999,4]:List Int),z<=9999 by decide) _ (A1 _);generalize ([-1,2,47,48,49,9999,4]:List Int)[n]'_=z at hc hzb;have Hzb:=af hzb;clear hzb;rw [Nat.zero_add] at hc;have Hw:=af (show nP rb p 3 w w2 from ⟨p+2,by omega,hr,grownBy_trans (grownBy_alloc Hg.o _) hg⟩);clear hr hg HC HO;go_wp2_with fail;go_ret;exact ⟨z,rfl,by have:=Hzb.o;omega,Hw.o⟩
 have h2b:(x==2)=false:=by simpa using h2
 clear h0 h1 h2;go_wp2_with fail;refine (afR 12 Hr.o).mono ?_;rintro e w2 ⟨y,rfl,y0,y1,hr2,hg2⟩;have xG:=af hr2;have DT:=af (grownBy_trans Hg.o hg2);clear hr2 hg2;go_wp2_with fail;refine (afR 2 xG.o).mono ?_;rintro e w3 ⟨z,rfl,z0,z1,hr3,hg3⟩;have Hw:=af (show nP rb p 3 w w3 from ⟨p+3,by omega,hr3,grownBy_trans DT.o hg3⟩);clear hr3 hg3;go_wp2_with fail;go_ret;exact ⟨_,rfl,by first | omega | exact abE _,Hw.o⟩
end Go.Proofs.YthcmmoibpgcgaaaGreatDoor
