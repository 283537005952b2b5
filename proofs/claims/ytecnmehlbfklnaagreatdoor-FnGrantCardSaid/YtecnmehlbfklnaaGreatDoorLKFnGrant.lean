/- The law FnGrant: only own rights are given. (printed by klc.py) -/
import Derived.Test.YtecnmehlbfklnaaGreatDoorKMn
import Derived.Test.YtecnmehlbfklnaaGreatDoorKJh
set_option linter.all false
set_option maxHeartbeats 8000000
set_option maxRecDepth 100000
open Go.Proofs.Tryz
namespace Go.Proofs.YtecnmehlbfklnaaGreatDoor
open Go.RowKit Kx
theorem acO (r:List Kx.Str) (g:Kx.Str) (u:Value) (w:World) (hr:dK w u r) (Zq:Dw r) (hro:aS r=true) (hg:bT g=true) (hgs:g.size<=9223372036854775807) :
  Calls prog 25 #[u,.string g] w fun e w'=>e=.returned (.bool (Kx.may r g))/\Below w.heap.size w w':=by
 have HR:=af hr;have Hsr:=af Zq;have mW:=af hro;have Hg:=af hg;have YI:=af hgs;clear hr Zq hro hg hgs;go_enter func25,ntmps25;go_wp2_with fail;refine (eG r _ _ HR.o Hsr.o).mono ?_;rintro e w3 ⟨rfl,hb⟩;rw [mW.o];have B0:=af hb;clear hb;go_wp2_with fail;refine (oM g _ YI.o).mono ?_;rintro e w4 ⟨rfl,hb⟩;rw [Hg.o];replace B0:=af (B0.o.trans (hb.mono B0.o.size));clear hb;go_wp2_with fail;refine (AP r g _ _ (RS.below HR.o B0.o)).mono ?_;rintro e w5 ⟨rfl,hb⟩;replace B0:=af (B0.o.trans (hb.mono B0.o.size));clear hb;obtain ⟨ans,hans⟩:∃ b,Kx.may r g=b:=⟨_,rfl⟩;rw [hans];have pI:=af hans;clear hans;go_wp2_with fail;go_ret;exact ⟨by rw [pI.o];rfl,B0.o⟩

theorem nmW {B:Nat} {w W:World} (_h:TI (Below B w W)):∃ V,W=V:=⟨_,rfl⟩
theorem onK {W V u v:World} {g h s t:Nat} {l m:List Value} (d:Below W.heap.size W V) (K:TI (BX W g s l)) (C:TI (BX W h t m)) (B:TI (Below u.heap.size u W)) (D:TI (Below v.heap.size v W)):TI (BX V g s l)/\TI (BX V h t m)/\TI (Below u.heap.size u V)/\TI (Below v.heap.size v V):=⟨K.o.below d,C.o.below d,B.o.trans (d.mono B.o.size),D.o.trans (d.mono D.o.size)⟩
theorem onO {W V:World} {g s b:Nat} {l:List Value} {um ui ue uc:Value} {k:Kx.Kernel} (d:Below W.heap.size W V) (K:TI (BX W g s l)) (H:TI (KO W b um ui ue uc k)):TI (BX V g s l)/\TI (KO V b um ui ue uc k):=⟨K.o.below d,H.o.below d⟩
theorem uRun1 {P:Program} {ops:Array Oper} {Q:Exit->Act->World->Prop} {md:Region.Mode} {S:World->Prop} {o1:Oper} {v1:Value} {fuel:Nat} {listed l1:Array Bool} {a a1:Act} {w:World} (i:Nat) (h:wpAnyH P md ops Q S fuel l1 a1 w) (hS:S w:=by assumption) (h1:Stp P md ops Q S i o1 v1 listed l1 a a1:=by exact stp):wpAnyH P md ops Q S (fuel+1) listed a w:=h1.go hS h
end Go.Proofs.YtecnmehlbfklnaaGreatDoor
namespace Kx
theorem callK_done {k:Kernel} {c:Call} (h:(cO k c).2.2=0):qm k c=cO k c:=by
 unfold cO at *;split
 ·rename_i h1;rw [if_pos h1] at h;exact absurd h h1
 rfl
theorem grant_done {k:Kernel} (hk:Ok k) {c:Call} (h8:c.kind=8) (h:(cO k c).2.2=0) :
  0<=c.a/\c.a<=2/\bT c.name=true/\jQ k c.env c.name=true/\(jS (au k.ah c.a.toNat).aB c.name).2=true/\(cO k c).1.mem=k.mem/\(cO k c).1.ag=k.ag/\(au (cO k c).1.ah c.a.toNat).aB=(jS (au k.ah c.a.toNat).aB c.name).1/\(cO k c).1.ah.length=3:=by
 have e:=callK_done h;rw [<-e] at h ⊢;have e2:qm k c=f_ k c:=by simp [qm,h8]
 rw [e2] at h ⊢;unfold f_ at h ⊢;split at h
 ·exact absurd h (by simp)
 split at h
 ·exact absurd h (by simp)
 rename_i h1 h2
 split at h
 ·rename_i h3
  rw [if_neg h1,if_neg h2,if_pos h8,if_pos h3];have hx:bK c.a 0 2=true/\bT c.name=true:=by
   cases ha:bK c.a 0 2 <;> cases hb:bT c.name <;> rw [ha,hb] at h1 <;> simp_all
  have ha:=ay.1 hx.1;have hl:c.a.toNat<k.ah.length:=by rw [hk.e3];omega
  refine ⟨ha.1,ha.2,hx.2,by simpa using h2,h3,rfl,rfl,?_,?_⟩
  ·show (au (aY k.ah c.a.toNat _) c.a.toNat).aB=_
   unfold aY;rw [mr hl,if_pos rfl]
  show (aY k.ah c.a.toNat _).length=3
  unfold aY;rw [List.length_set,hk.e3]
 exact absurd h (by simp)
end Kx
namespace Go.Proofs.YtecnmehlbfklnaaGreatDoor
open Go.RowKit Kx

theorem FnGrant_c (a:Option Addr) (len0 cap0:Nat) (zr:List Int) (w:World) (h0:abT .u8 w a len0 cap0 zr) :
  Calls prog 12 #[.slice a len0 cap0] w (aez w):=by
 by_cases hl0:len0<=1048576
 ·have hI0:¬ (1048576:Int)<(len0:Int):=by omega
  have Hr:=af (abT.rb h0);clear h0;go_enter func12,ntmps12;go_wp2_with fail;clear hI0;refine (adi _ _ _ Hr.o).mono ?_;rintro en w1 ⟨k,⟨bQ,JF,ca,cb,cc,bg⟩,_,_,_,_,rfl,hsl,hs,hnm,hcm,hk,hb⟩;obtain ⟨⟨a0,n0,m0,rfl⟩,⟨a1,n1,m1,rfl⟩,⟨a2,n2,m2,rfl⟩,⟨a3,n3,m3,rfl⟩⟩:=hsl;unfold dW;obtain ⟨u1,hu1⟩:∃ V,w1.alloc (.cells #[.slice none 0 0,.slice none 0 0,.slice none 0 0,.slice none 0 0] 28)=V:=⟨_,rfl⟩;obtain ⟨u2,hu2⟩:∃ V,u1.alloc (.cells #[I_ 0,I_ 0,I_ 0,I_ 0,I_ 0,.string ⟨#[]⟩] 30)=V:=⟨_,rfl⟩;have Bu1:Below w1.heap.size w1 u1:=hu1 ▸ dm;have Bu2:Below u1.heap.size u1 u2:=hu2 ▸ dm;have su_:w1.heap.size<u1.heap.size:=by rw [<-hu1];simp
  have YK_:=af (show BX u2 w1.heap.size 28 [.slice none 0 0,.slice none 0 0,.slice none 0 0,.slice none 0 0] from (hu1 ▸ BX.new w1 _ _:BX u1 _ _ _).below Bu2);have YC_:=af (show BX u2 u1.heap.size 30 [I_ 0,I_ 0,I_ 0,I_ 0,I_ 0,.string ⟨#[]⟩] from hu2 ▸ BX.new u1 _ _);have BU_:=af (Bu1.trans (Bu2.mono Bu1.size));have p0:=YK_.o.c4;obtain ⟨q0,q1,q2,q3⟩:=YK_.o.f4;have Y1_:=BX.iq (Nat.ne_of_gt su_) [.slice a0 n0 m0,.slice a1 n1 m1,.slice a2 n2 m2,.slice a3 n3 m3] 0 YC_.o;have Y0_:=YK_.o.sets [.slice a0 n0 m0,.slice a1 n1 m1,.slice a2 n2 m2,.slice a3 n3 m3] rfl;rw [<-afA] at Y0_ Y1_;have Y2:=Y1_.sets [I_ bQ,I_ JF,I_ ca,I_ cb,I_ cc,.string bg] rfl;have Y3_:=BX.iq (Nat.ne_of_lt su_) [I_ bQ,I_ JF,I_ ca,I_ cb,I_ cc,.string bg] 0 Y0_
  have BF:=dP (Nat.le_of_lt su_) [I_ bQ,I_ JF,I_ ca,I_ cb,I_ cc,.string bg] 0 (dP aW [.slice a0 n0 m0,.slice a1 n1 m1,.slice a2 n2 m2,.slice a3 n3 m3] 0 BU_.o);rw [<-afA] at BF;rw [<-afB] at Y2 Y3_ BF;obtain ⟨d0,d1,d2,d3,d4,d5⟩:=Y1_.c6;have f0:=Y1_.frozen 0;have f1:=Y1_.frozen 1;have f2:=Y1_.frozen 2;have f3:=Y1_.frozen 3;have f4:=Y1_.frozen 4;have f5:=Y1_.frozen 5;have e0:=Y3_.c4;have g0:=Y2.c6;have HY2:=af Y2;have HY3:=af Y3_;have HBF:=af BF;clear Y0_ Y1_ Y2 Y3_ BF YK_ YC_ BU_ Bu1 Bu2;go_wp2_with fail;clear hu1 hu2 p0 q0 q1 q2 q3 d0 d1 d2 d3 d4 d5 f0 f1 f2 f3 f4 f5 e0 g0;obtain ⟨w3,hw3⟩:=nmW HBF;rw [hw3] at HY2 HY3 HBF ⊢;have XK_:=HY3;have XC_:=HY2;have TP:=HBF.o;have Bw:=af (hb.trans (TP.mono hb.size));have HR:=af (fun W (h:Below w3.heap.size w3 W)=>(hk.below TP).below h)
  have Hs:=af hs;have HI:=af (fun W (h:Below w3.heap.size w3 W)=>adb k ⟨bQ,JF,ca,cb,cc,bg⟩ _ _ _ _ W (HR.o W h) hs hnm hcm)
  have HS:=af (fun W (h:Below w3.heap.size w3 W)=>ac9 k ⟨bQ,JF,ca,cb,cc,bg⟩ _ _ _ _ W (HR.o W h) hs hnm)
  have Hnm:=af hnm;have Hcm:=af hcm;obtain ⟨r,hr⟩:=XP (QH k ⟨bQ,JF,ca,cb,cc,bg⟩);have HX:=af hr;rw [hr] at HI HS;unfold dW at HI HS;have B3:=af (Below.refl w3.heap.size w3);clear hs hnm hcm hk hb TP Hr hr hw3 HY2 HY3 HBF;refine (HI.o w3 B3.o).mono ?_;rintro en w4 ⟨_,_,_,_,rfl,hko,hb⟩;obtain ⟨⟨b0,q0,z0,rfl⟩,⟨b1,q1,z1,rfl⟩,⟨b2,q2,z2,rfl⟩,⟨b3,q3,z3,rfl⟩⟩:=hko.sl;obtain ⟨XK_,XC_,Bw,B3⟩:=onK hb XK_ XC_ Bw B3;obtain ⟨w5,hw5⟩:∃ V,w4.alloc (.cells #[.slice b0 q0 z0,.slice b1 q1 z1,.slice b2 q2 z2,.slice b3 q3 z3] 28)=V:=⟨_,rfl⟩;have Bw5:Below w4.heap.size w4 w5:=hw5 ▸ dm;have XO_:=af (show BX w5 w4.heap.size 28 [.slice b0 q0 z0,.slice b1 q1 z1,.slice b2 q2 z2,.slice b3 q3 z3] from hw5 ▸ BX.new w4 _ _);have HO:=af (hko.below Bw5);obtain ⟨XK_,XC_,Bw,B3⟩:=onK Bw5 XK_ XC_ Bw B3;clear hko hb Bw5;have p0:=XK_.o.c4;have c0:=XC_.o.c6
  go_wp2_with fail
  try rw [hw5]
  clear hw5 p0;clear c0;refine (HS.o w5 B3.o).mono ?_;rintro en w6 ⟨_,_,_,_,rfl,hko,hb⟩;obtain ⟨⟨d0,x0,y0,rfl⟩,⟨d1,x1,y1,rfl⟩,⟨d2,x2,y2,rfl⟩,⟨d3,x3,y3,rfl⟩⟩:=hko.sl;obtain ⟨XK_,XC_,Bw,B3⟩:=onK hb XK_ XC_ Bw B3;obtain ⟨XO_,HO⟩:=onO hb XO_ HO;obtain ⟨w7,hw7⟩:∃ V,w6.alloc (.cells #[.slice d0 x0 y0,.slice d1 x1 y1,.slice d2 x2 y2,.slice d3 x3 y3] 28)=V:=⟨_,rfl⟩;have Bw7:Below w6.heap.size w6 w7:=hw7 ▸ dm;have XW_:=af (show BX w7 w6.heap.size 28 [.slice d0 x0 y0,.slice d1 x1 y1,.slice d2 x2 y2,.slice d3 x3 y3] from hw7 ▸ BX.new w6 _ _);have HW:=af (hko.below Bw7);obtain ⟨XK_,XC_,Bw,B3⟩:=onK Bw7 XK_ XC_ Bw B3;obtain ⟨XO_,HO⟩:=onO Bw7 XO_ HO;clear hko hb Bw7 HI HS;have o0:=XO_.o.c4;have t0:=XW_.o.c4;go_wp2_with fail
  try rw [hw7]
  clear hw7 o0;clear t0;refine (adE r.1 _ _ _ _ _ _ _ _ _ HO.o.rk HW.o.rk).mono ?_;rintro en w8 ⟨rfl,hb⟩;obtain ⟨XK_,XC_,Bw,B3⟩:=onK hb XK_ XC_ Bw B3;obtain ⟨XO_,HO⟩:=onO hb XO_ HO;obtain ⟨XW_,HW⟩:=onO hb XW_ HW;clear hb
  by_cases h5:r.2.2=5
  ·have h5b:(r.2.2==5)=true:=by simpa using h5
   clear h5;have c0:=XC_.o.c6;have o0:=XO_.o.c4;have t0:=XW_.o.c4;go_wp2_with fail;refine (adE r.1 _ _ _ _ _ _ _ _ _ HO.o.rk HW.o.rk).mono ?_;rintro en w9 ⟨rfl,hb⟩;obtain ⟨XK_,XC_,Bw,B3⟩:=onK hb XK_ XC_ Bw B3;obtain ⟨XO_,HO⟩:=onO hb XO_ HO;obtain ⟨XW_,HW⟩:=onO hb XW_ HW;clear hb o0;clear t0 c0;go_wp2_with fail;go_ret;exact ⟨rfl,Bw.o⟩
  have h5b:(r.2.2==5)=false:=by simpa using h5
  have H5:=af h5;clear h5
  by_cases hd:r.2.2=0
  case neg =>
   have hdb:(r.2.2 != 0)=true:=by simpa using hd
   clear hd;have c0:=XC_.o.c6;have o0:=XO_.o.c4;have t0:=XW_.o.c4;go_wp2_with fail;refine (adE r.1 _ _ _ _ _ _ _ _ _ HO.o.rk HW.o.rk).mono ?_;rintro en w9 ⟨rfl,hb⟩;obtain ⟨XK_,XC_,Bw,B3⟩:=onK hb XK_ XC_ Bw B3;obtain ⟨XO_,HO⟩:=onO hb XO_ HO;obtain ⟨XW_,HW⟩:=onO hb XW_ HW;clear hb o0;clear t0 c0;go_wp2_with fail;go_ret;exact ⟨rfl,Bw.o⟩
  by_cases hk:bQ=8
  case neg =>
   have hdb:(r.2.2 != 0)=false:=by simpa using hd
   have hkb:(bQ != 8)=true:=by simpa using hk
   clear hd hk;have c0:=XC_.o.c6;have o0:=XO_.o.c4;have t0:=XW_.o.c4;go_wp2_with fail;refine (adE r.1 _ _ _ _ _ _ _ _ _ HO.o.rk HW.o.rk).mono ?_;rintro en w9 ⟨rfl,hb⟩;obtain ⟨XK_,XC_,Bw,B3⟩:=onK hb XK_ XC_ Bw B3;obtain ⟨XO_,HO⟩:=onO hb XO_ HO;obtain ⟨XW_,HW⟩:=onO hb XW_ HW;clear hb o0;clear t0 c0;go_wp2_with fail;go_ret;exact ⟨rfl,Bw.o⟩
  subst hk;have Hd:=af hd;have hdb:(r.2.2 != 0)=false:=by simpa using hd
  clear hd;have HP:=af (adQ (k:=k) (c:=⟨8,JF,ca,cb,cc,bg⟩) (by rw [HX.o];exact H5.o));have HC:=af (show Kx.cO k ⟨8,JF,ca,cb,cc,bg⟩=r from HP.o.2.2.1.symm.trans HX.o);have Yy:=af (nN.1 HP.o.1);obtain ⟨ha0,ha2,hro,wR,had,hr1,hr2,hr3,hr4⟩:=Kx.grant_done Yy.o (c:=⟨8,JF,ca,cb,cc,bg⟩) rfl (by rw [HC.o];exact Hd.o);rw [HC.o] at hr1 hr2 hr3 hr4;simp only at ha0 ha2 hro wR had hr3;have hce:=Kx.ay.1 HP.o.2.1;simp only at hce;obtain ⟨a,rfl⟩:=Int.eq_ofNat_of_zero_le ha0;obtain ⟨e,rfl⟩:=Int.eq_ofNat_of_zero_le hce.1;rw [show ((a:Int)).toNat=a from rfl] at had hr3;have ha:a<3:=by omega
  have he:e<3:=by omega
  have hl3:k.ah.length=3:=Yy.o.e3;have hmb:Kx.may (Kx.au k.ah e).aB bg=true:=wR;obtain ⟨bk,ok,qk,uk_,ek,lk,yk,sk,rk⟩:=(HR.o w8 B3.o).e.at (k:=a) (by rw [hl3];exact ha);obtain ⟨rfl,rfl,rfl⟩:=Za ek;clear ek;obtain ⟨bj,oj,qj_,uj_,ej,lj,yj_,sj,rj⟩:=(HR.o w8 B3.o).e.at (k:=e) (by rw [hl3];exact he);obtain ⟨⟨rfl,rfl,_⟩,_,rfl⟩:=Zb ej;clear ej;obtain ⟨bo,oo,qo_,uo_,eo,lo,yo,so,ro⟩:=HO.o.rk.e.at (k:=a) (by rw [hr4];exact ha);obtain ⟨rfl,rfl,rfl⟩:=Za eo;clear eo;have iak:(a:Int)<(k.ah.length:Int):=by rw [hl3];omega
  have iek:(e:Int)<(k.ah.length:Int):=by rw [hl3];omega
  have iao:(a:Int)<(r.1.ah.length:Int):=by rw [hr4];omega
  have IK_:=af (show ∀ W,Below w8.heap.size w8 W->(W.cell? ⟨w1.heap.size,0,none⟩=some (.slice a0 n0 m0)/\W.cell? ⟨w1.heap.size,1,none⟩=some (.slice a1 n1 m1)/\W.cell? ⟨w1.heap.size,2,none⟩=some (.slice (some ⟨bk,ok,none⟩) k.ah.length m2)/\W.cell? ⟨u1.heap.size,1,none⟩=some (I_ (e:Int))/\W.cell? ⟨u1.heap.size,2,none⟩=some (I_ (a:Int))/\W.cell? ⟨u1.heap.size,5,none⟩=some (.string bg)/\W.cell? ⟨w4.heap.size,0,none⟩=some (.slice b0 q0 z0)/\W.cell? ⟨w4.heap.size,1,none⟩=some (.slice b1 q1 z1)/\W.cell? ⟨w4.heap.size,2,none⟩=some (.slice (some ⟨bo,oo,none⟩) r.1.ah.length z2)/\W.cell? ⟨bk,ok+a*2,none⟩=some uk_/\W.cell? ⟨bk,ok+e*2,none⟩=some uj_/\W.cell? ⟨bo,oo+a*2,none⟩=some uo_) from fun W h=>⟨(XK_.o.below h).cell 0,(XK_.o.below h).cell 1,(XK_.o.below h).cell 2,(XC_.o.below h).cell 1,(XC_.o.below h).cell 2,(XC_.o.below h).cell 5,(XO_.o.below h).cell 0,(XO_.o.below h).cell 1,(XO_.o.below h).cell 2,(h.cell (p:=⟨bk,ok+a*2,none⟩) lk).trans yk,(h.cell (p:=⟨bk,ok+e*2,none⟩) lj).trans yj_,(h.cell (p:=⟨bo,oo+a*2,none⟩) lo).trans yo⟩)
  have HA:=af (fun W (h:Below w8.heap.size w8 W)=>abC (Kx.au k.ah a).aB bg uk_ W (rk.below h) (Hs.o.2 a (by rw [hl3];exact ha)) (Yy.o.Lm a ha) hro Hnm.o)
  have HM:=af (fun W (h:Below w8.heap.size w8 W)=>acO (Kx.au k.ah e).aB bg uj_ W (rj.below h) (Hs.o.2 e (by rw [hl3];exact he)) (Yy.o.Lm e he) hro Hnm.o)
  have Hmb:=af hmb;have Had:=af had;have HQ:=af (fun W (h:Below w8.heap.size w8 W)=>(show dK W uo_ (Kx.jS (Kx.au k.ah a).aB bg).1 by have:=ro.below h;rw [hr3] at this;exact this))
  have Hm:=af (fun W (h:Below w8.heap.size w8 W)=>(show RM W _ k.mem by have:=(HO.o.below h).rk.m;rw [hr1] at this;exact this))
  have Hi:=af (fun W (h:Below w8.heap.size w8 W)=>(show bV W _ k.ag by have:=(HO.o.below h).rk.i;rw [hr2] at this;exact this))
  have HRm:=af (fun W (h:Below w8.heap.size w8 W)=>HR.o W (B3.o.trans (h.mono B3.o.size)))
  clear ha0 ha2 hro wR had hr1 hr2 hr3 hr4 hce hl3 hmb yk sk rk yj_ sj rj yo so ro lk lj lo ha he;have p0:=XK_.o.c4;have c0:=XC_.o.c6;have o0:=XO_.o.c4;go_wp2_with fail;clear p0 c0;clear o0;have hb8:=Below.refl w8.heap.size w8;have hS0:=IK_.o _ (Below.bz hb8);refine afi IK_ fun hHeld=>?_
  clear hS0;refine afW 0 ?_;refine uRun1 8 ?_;refine ahk 9 fun K hK=>?_
  (go_simp;go_at_call 27;refine (HA.o _ (Below.bz hb8)).mono ?_;rintro en w9 ⟨u9,rfl,Rh,hb⟩;have hb9:=hb8.trans ((Below.gG hb).mono hb8.size);clear hb;have hS9:=IK_.o w9 hb9;rw [Had.o];go_wp2_with fail)
  refine afS hK fun hHeld=>?_
  clear hK K;obtain ⟨a9,c9,e9,_,_⟩:=RS.val Rh.rs;subst e9;have HL:=af Rh.rs;clear Rh;refine afV 10 ?_;refine uRun1 14 ?_;refine wpAnyH_done (by kernel_rfl) ?_ _;go_wp2_with fail;have hS0:=IK_.o _ (Below.bz hb9);refine afi IK_ fun hHeld=>?_
  clear hS0;refine afW 0 ?_;refine afU 8 ?_;refine uRun1 10 ?_;refine ahk 11 fun K hK=>?_
  (go_simp;go_at_call 25;refine (HM.o _ (Below.bz hb9)).mono ?_;rintro en w10 ⟨rfl,hb⟩;replace HL:=af (HL.o.below (Below.gG hb));have ach:=hb9.trans ((Below.gG hb).mono hb9.size);clear hb;have hS10:=IK_.o w10 ach;rw [Hmb.o];go_wp2_with fail)
  refine afS hK fun hHeld=>?_
  clear hK K;refine afW 12 ?_;refine afU 20 ?_;refine ahk 22 fun K hK=>?_
  (go_simp;go_at_call 21;refine (ace _ _ _ w10 (HQ.o _ ach) HL.o).mono ?_;rintro en UR ⟨rfl,hb⟩;have hb11:=ach.trans ((hb).mono ach.size);clear hb;have hS11:=IK_.o UR hb11;go_wp2_with fail)
  refine afS hK fun hHeld=>?_
  clear hK K;refine afV 23 ?_;refine afU 27 ?_;refine ahk 29 fun K hK=>?_
  (go_simp;go_at_call 18;refine (ab4 _ _ _ UR (Hm.o _ hb11) (HRm.o _ hb11).m).mono ?_;rintro en w12 ⟨rfl,hb⟩;have IA:=hb11.trans ((hb).mono hb11.size);clear hb;have hS12:=IK_.o w12 IA;go_wp2_with fail)
  refine afS hK fun hHeld=>?_
  clear hK K;refine afV 30 ?_;refine afU 34 ?_;refine ahk 36 fun K hK=>?_
  (go_simp;go_at_call 19;refine (acg _ _ _ w12 (Hi.o _ IA) (HRm.o _ IA).i).mono ?_;rintro en YN ⟨rfl,hb⟩;have hb13:=IA.trans ((hb).mono IA.size);clear hb;have hS13:=IK_.o YN hb13;go_wp2_with fail)
  refine afS hK fun hHeld=>?_
  clear hK K;refine afU 37 ?_;refine wpAnyH_done (by kernel_rfl) ?_ _;go_wp2_with fail;go_ret;exact ⟨rfl,Bw.o.trans (hb13.mono Bw.o.size)⟩
 have hI0:(1048576:Int)<(len0:Int):=by omega
 clear h0;go_enter func12,ntmps12;go_wp2_with fail;go_ret;exact ⟨rfl,Below.refl _ _⟩
end Go.Proofs.YtecnmehlbfklnaaGreatDoor
