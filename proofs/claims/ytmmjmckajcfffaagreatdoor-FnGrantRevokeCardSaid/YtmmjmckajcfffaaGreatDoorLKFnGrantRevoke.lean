/- The law FnGrantRevoke: what was given can be taken. (printed by klc.py) -/
import Derived.Test.YtmmjmckajcfffaaGreatDoorKMn
set_option linter.all false
set_option maxHeartbeats 8000000
set_option maxRecDepth 100000
open Go.Proofs.Tryz
namespace Go.Proofs.YtmmjmckajcfffaaGreatDoor
open Go.RowKit Kx

theorem nmW {B:Nat} {w W:World} (_h:TI (Below B w W)):∃ V,W=V:=⟨_,rfl⟩
theorem onK {W V u v:World} {g h s t:Nat} {l m:List Value} (d:Below W.heap.size W V) (K:TI (BX W g s l)) (C:TI (BX W h t m)) (B:TI (Below u.heap.size u W)) (D:TI (Below v.heap.size v W)):TI (BX V g s l)/\TI (BX V h t m)/\TI (Below u.heap.size u V)/\TI (Below v.heap.size v V):=⟨K.o.below d,C.o.below d,B.o.trans (d.mono B.o.size),D.o.trans (d.mono D.o.size)⟩
theorem onO {W V:World} {g s b:Nat} {l:List Value} {um ui ue uc:Value} {k:Kx.Kernel} (d:Below W.heap.size W V) (K:TI (BX W g s l)) (H:TI (KO W b um ui ue uc k)):TI (BX V g s l)/\TI (KO V b um ui ue uc k):=⟨K.o.below d,H.o.below d⟩
theorem ac' {P:Program} {ops:Array Oper} {Q:Exit->Act->World->Prop} {md:Region.Mode} {S:World->Prop} {o1:Oper} {v1:Value} {fuel:Nat} {listed l1:Array Bool} {a a1:Act} {w:World} (i:Nat) (h:wpAnyH P md ops Q S fuel l1 a1 w) (hS:S w:=by assumption) (h1:Stp P md ops Q S i o1 v1 listed l1 a a1:=by exact stp):wpAnyH P md ops Q S (fuel+1) listed a w:=h1.go hS h
theorem boxCall:Box? 30:=⟨by decide,by decide,by decide,by decide,by decide,by decide⟩
theorem implRightCovers_c (a b:Kx.Str) (w:World) (ha:Kx.bT a=true) (hb:Kx.bT b=true) (hsa:a.size<=9223372036854775807) (hsb:b.size<=9223372036854775807) :
  Calls prog 27 #[.string a,.string b] w fun e w'=>e=.returned (.bool (Kx.pre a b))/\Below w.heap.size w w':=by
 have Ha:=af ha;have Hb:=af hb;have Yn:=af hsa;have Hsb:=af hsb;clear ha hb hsa hsb;go_enter func27,ntmps27;go_wp2_with fail;refine (oM a _ Yn.o).mono ?_;rintro e w1 ⟨rfl,hb⟩;rw [Ha.o];have B0:=af hb;clear hb;go_wp2_with fail;refine (oM b _ Hsb.o).mono ?_;rintro e w2 ⟨rfl,hb⟩;rw [Hb.o];replace B0:=af (B0.o.trans (hb.mono B0.o.size));clear hb;go_wp2_with fail;refine (D6 a b _).mono ?_;rintro e w' ⟨rfl,rfl⟩;obtain ⟨ans,hans⟩:∃ x,Kx.pre a b=x:=⟨_,rfl⟩;rw [hans];have pI:=af hans;clear hans;go_wp2_with fail;go_ret;exact ⟨by rw [pI.o];rfl,B0.o⟩
end Go.Proofs.YtmmjmckajcfffaaGreatDoor
namespace Kx
theorem callK_done {k:Kernel} {c:Call} (h:(cO k c).2.2=0):qm k c=cO k c:=by
 unfold cO at *;split
 ·rename_i h1;rw [if_pos h1] at h;exact absurd h h1
 rfl
theorem grant_done {k:Kernel} (hk:Ok k) {c:Call} (h8:c.kind=8) (h:(cO k c).2.2=0) :
  0<=c.a/\c.a<=2/\bT c.name=true/\jQ k c.env c.name=true/\(jS (au k.ah c.a.toNat).aB c.name).2=true/\(cO k c).1.mem=k.mem/\(cO k c).1.ag=k.ag/\(au (cO k c).1.ah c.a.toNat).aB=(jS (au k.ah c.a.toNat).aB c.name).1/\(cO k c).1.ah.length=3:=by
 have e:=callK_done h;rw [<-e] at h ⊢;have e2:qm k c=f_ k c:=by simp [qm,h8]
 rw [e2] at h ⊢;unfold f_ at h ⊢;split at h
 ·exact absurd h (by simp)
 split at h
 ·exact absurd h (by simp)
 rename_i h1 h2
 split at h
 ·rename_i h3
  rw [if_neg h1,if_neg h2,if_pos h8,if_pos h3];have hx:bK c.a 0 2=true/\bT c.name=true:=by
   cases ha:bK c.a 0 2 <;> cases hb:bT c.name <;> rw [ha,hb] at h1 <;> simp_all
  have ha:=ay.1 hx.1;have hl:c.a.toNat<k.ah.length:=by rw [hk.e3];omega
  refine ⟨ha.1,ha.2,hx.2,by simpa using h2,h3,rfl,rfl,?_,?_⟩
  ·show (au (aY k.ah c.a.toNat _) c.a.toNat).aB=_
   unfold aY;rw [mr hl,if_pos rfl]
  show (aY k.ah c.a.toNat _).length=3
  unfold aY;rw [List.length_set,hk.e3]
 exact absurd h (by simp)
theorem grant_eq {k:Kernel} {c:Call} (h8:c.kind=8) (h:(cO k c).2.2=0) :
  cO k c=({ k with ah:=aY k.ah c.a.toNat (jS (au k.ah c.a.toNat).aB c.name).1 },0,0):=by
 have e:=callK_done h;rw [<-e] at h ⊢;have e2:qm k c=f_ k c:=by simp [qm,h8]
 rw [e2] at h ⊢;unfold f_ at h ⊢;split at h
 ·exact absurd h (by simp)
 split at h
 ·exact absurd h (by simp)
 rename_i h1 h2
 split at h
 ·rename_i h3
  rw [if_neg h1,if_neg h2,if_pos h8,if_pos h3]
 exact absurd h (by simp)
theorem kcall_ok {k:Kernel} (hk:Ok k) {c:Call} (he:bK c.env 0 2=true):QH k c=cO k c:=by
 unfold QH;rw [nN.2 hk,he];rfl
theorem grant_revoke {k:Kernel} (hk:Ok k) {c:Call} (he:bK c.env 0 2=true) (h8:c.kind=8) (h:(cO k c).2.2=0) (hne:c.a≠c.env) :
  ((QH (cO k c).1 ⟨9,c.env,c.a,c.b,c.c,c.name⟩).2.2=0/\(au (QH (cO k c).1 ⟨9,c.env,c.a,c.b,c.c,c.name⟩).1.ah c.a.toNat).aB=jm (au (cO k c).1.ah c.a.toNat).aB c.name/\(QH (cO k c).1 ⟨9,c.env,c.a,c.b,c.c,c.name⟩).1.ah.length=3) \/
  ((QH (cO k c).1 ⟨9,c.env,c.a,c.b,c.c,c.name⟩).2.2=2/\(QH (cO k c).1 ⟨9,c.env,c.a,c.b,c.c,c.name⟩).1=(cO k c).1):=by
 have hr:=hk.cO c he;obtain ⟨ha0,ha2,hro,wR,had,hr1,hr2,hr3,hr4⟩:=grant_done hk h8 h;have hg:=grant_eq h8 h;rw [kcall_ok hr (c:=⟨9,c.env,c.a,c.b,c.c,c.name⟩) he];have he':=ay.1 he;have hl:c.a.toNat<k.ah.length:=by rw [hk.e3];omega
 have hmy2:jQ (cO k c).1 c.env c.name=true:=by
  rw [hg];unfold jQ aY;simp only;rw [mr hl,if_neg (by omega)];exact wR
 generalize (cO k c).1=r at *;have e2:qm r ⟨9,c.env,c.a,c.b,c.c,c.name⟩=f_ r ⟨9,c.env,c.a,c.b,c.c,c.name⟩:=by simp [qm]
 have ha:bK c.a 0 2=true:=ay.2 ⟨ha0,ha2⟩;have hb:(c.a==c.env)=false:=by simpa using hne
 have hl2:c.a.toNat<r.ah.length:=by rw [hr.e3];omega
 have key:f_ r ⟨9,c.env,c.a,c.b,c.c,c.name⟩=(if !allowed r.ag (reach r.mem (au r.ah c.a.toNat).root) (jm (au r.ah c.a.toNat).aB c.name) then (r,0,2) else ({ r with ah:=aY r.ah c.a.toNat (jm (au r.ah c.a.toNat).aB c.name) },0,0)):=by
  unfold f_;simp only;rw [ha,hro,hb,hmy2];simp
 unfold cO;rw [e2,key]
 cases allowed r.ag (reach r.mem (au r.ah c.a.toNat).root) (jm (au r.ah c.a.toNat).aB c.name) with
 | false=>right;simp
 | true =>
  left
  refine ⟨by simp,?_,?_⟩
  ·show (au (aY r.ah c.a.toNat _) c.a.toNat).aB=_
   unfold aY;rw [mr hl2,if_pos rfl]
  show (aY r.ah c.a.toNat _).length=3
  unfold aY;rw [List.length_set,hr.e3]
end Kx
namespace Go.Proofs.YtmmjmckajcfffaaGreatDoor
open Go.RowKit Kx

theorem FnGrantRevoke_c (a:Option Addr) (len0 cap0:Nat) (zr:List Int) (w:World) (h0:abT .u8 w a len0 cap0 zr) :
  Calls prog 7 #[.slice a len0 cap0] w (aez w):=by
 by_cases hl0:len0<=1048576
 ·have hI0:¬ (1048576:Int)<(len0:Int):=by omega
  have Hr:=af (abT.rb h0);clear h0;go_enter func7,ntmps7;go_wp2_with fail;clear hI0;refine (adi _ _ _ Hr.o).mono ?_;rintro en w1 ⟨k,⟨bQ,JF,ca,cb,cc,bg⟩,_,_,_,_,rfl,hsl,hs,hnm,hcm,hk,hb⟩;obtain ⟨⟨a0,n0,m0,rfl⟩,⟨a1,n1,m1,rfl⟩,⟨a2,n2,m2,rfl⟩,⟨a3,n3,m3,rfl⟩⟩:=hsl;unfold dW;obtain ⟨u1,hu1⟩:∃ V,w1.alloc (.cells #[.slice none 0 0,.slice none 0 0,.slice none 0 0,.slice none 0 0] 28)=V:=⟨_,rfl⟩;obtain ⟨u2,hu2⟩:∃ V,u1.alloc (.cells #[I_ 0,I_ 0,I_ 0,I_ 0,I_ 0,.string ⟨#[]⟩] 30)=V:=⟨_,rfl⟩;have Bu1:Below w1.heap.size w1 u1:=hu1 ▸ dm;have Bu2:Below u1.heap.size u1 u2:=hu2 ▸ dm;have su_:w1.heap.size<u1.heap.size:=by rw [<-hu1];simp
  have YK_:=af (show BX u2 w1.heap.size 28 [.slice none 0 0,.slice none 0 0,.slice none 0 0,.slice none 0 0] from (hu1 ▸ BX.new w1 _ _:BX u1 _ _ _).below Bu2);have YC_:=af (show BX u2 u1.heap.size 30 [I_ 0,I_ 0,I_ 0,I_ 0,I_ 0,.string ⟨#[]⟩] from hu2 ▸ BX.new u1 _ _);have BU_:=af (Bu1.trans (Bu2.mono Bu1.size));have p0:=YK_.o.c4;obtain ⟨q0,q1,q2,q3⟩:=YK_.o.f4;have Y1_:=BX.iq (Nat.ne_of_gt su_) [.slice a0 n0 m0,.slice a1 n1 m1,.slice a2 n2 m2,.slice a3 n3 m3] 0 YC_.o;have Y0_:=YK_.o.sets [.slice a0 n0 m0,.slice a1 n1 m1,.slice a2 n2 m2,.slice a3 n3 m3] rfl;rw [<-afA] at Y0_ Y1_;have Y2:=Y1_.sets [I_ bQ,I_ JF,I_ ca,I_ cb,I_ cc,.string bg] rfl;have Y3_:=BX.iq (Nat.ne_of_lt su_) [I_ bQ,I_ JF,I_ ca,I_ cb,I_ cc,.string bg] 0 Y0_
  have BF:=dP (Nat.le_of_lt su_) [I_ bQ,I_ JF,I_ ca,I_ cb,I_ cc,.string bg] 0 (dP aW [.slice a0 n0 m0,.slice a1 n1 m1,.slice a2 n2 m2,.slice a3 n3 m3] 0 BU_.o);rw [<-afA] at BF;rw [<-afB] at Y2 Y3_ BF;obtain ⟨d0,d1,d2,d3,d4,d5⟩:=Y1_.c6;have f0:=Y1_.frozen 0;have f1:=Y1_.frozen 1;have f2:=Y1_.frozen 2;have f3:=Y1_.frozen 3;have f4:=Y1_.frozen 4;have f5:=Y1_.frozen 5;obtain ⟨e0,e1,e2,e3⟩:=Y3_.c4;have g0:=Y2.c6;have HY2:=af Y2;have HY3:=af Y3_;have HBF:=af BF;clear Y0_ Y1_ Y2 Y3_ BF YK_ YC_ BU_ Bu1 Bu2;go_wp2_with fail;clear hu1 hu2 p0 q0 q1 q2 q3 d0 d1 d2 d3 d4 d5 f0 f1 f2 f3 f4 f5 e0 e1 e2 e3 g0;obtain ⟨w3,hw3⟩:=nmW HBF;rw [hw3] at HY2 HY3 HBF ⊢;have XK_:=HY3;have XC_:=HY2;have TP:=HBF.o;have Bw:=af (hb.trans (TP.mono hb.size));have HR:=af (fun W (h:Below w3.heap.size w3 W)=>(hk.below TP).below h)
  have Hs:=af hs;have HI:=af (fun W (h:Below w3.heap.size w3 W)=>adb k ⟨bQ,JF,ca,cb,cc,bg⟩ _ _ _ _ W (HR.o W h) hs hnm hcm)
  have HS:=af (fun W (h:Below w3.heap.size w3 W)=>ac9 k ⟨bQ,JF,ca,cb,cc,bg⟩ _ _ _ _ W (HR.o W h) hs hnm)
  have Hnm:=af hnm;have Hcm:=af hcm;obtain ⟨r,hr⟩:=XP (Kx.QH k ⟨bQ,JF,ca,cb,cc,bg⟩);have HX:=af hr;rw [hr] at HI HS;unfold dW at HI HS;have B3:=af (Below.refl w3.heap.size w3);have Hu1:=af (show w.heap.size<=u1.heap.size from Nat.le_trans hb.size (Nat.le_of_lt su_));clear hs hnm hcm hk hb TP Hr hr hw3 HY2 HY3 HBF;refine (HI.o w3 B3.o).mono ?_;rintro en w4 ⟨_,_,_,_,rfl,hko,hb⟩;obtain ⟨⟨b0,q0,z0,rfl⟩,⟨b1,q1,z1,rfl⟩,⟨b2,q2,z2,rfl⟩,⟨b3,q3,z3,rfl⟩⟩:=hko.sl;obtain ⟨XK_,XC_,Bw,B3⟩:=onK hb XK_ XC_ Bw B3;obtain ⟨w5,hw5⟩:∃ V,w4.alloc (.cells #[.slice b0 q0 z0,.slice b1 q1 z1,.slice b2 q2 z2,.slice b3 q3 z3] 28)=V:=⟨_,rfl⟩;have Bw5:Below w4.heap.size w4 w5:=hw5 ▸ dm;have XO_:=af (show BX w5 w4.heap.size 28 [.slice b0 q0 z0,.slice b1 q1 z1,.slice b2 q2 z2,.slice b3 q3 z3] from hw5 ▸ BX.new w4 _ _);have HO:=af (hko.below Bw5)
  obtain ⟨XK_,XC_,Bw,B3⟩:=onK Bw5 XK_ XC_ Bw B3;clear hko hb Bw5;have p0:=XK_.o.c4;obtain ⟨c0,c1,c2,c3,c4,c5⟩:=XC_.o.c6;go_wp2_with fail
  try rw [hw5]
  clear hw5 p0;clear c0 c1 c2 c3 c4 c5;refine (HS.o w5 B3.o).mono ?_;rintro en w6 ⟨_,_,_,_,rfl,hko,hb⟩;obtain ⟨⟨d0,x0,y0,rfl⟩,⟨d1,x1,y1,rfl⟩,⟨d2,x2,y2,rfl⟩,⟨d3,x3,y3,rfl⟩⟩:=hko.sl;obtain ⟨XK_,XC_,Bw,B3⟩:=onK hb XK_ XC_ Bw B3;obtain ⟨XO_,HO⟩:=onO hb XO_ HO;obtain ⟨w7,hw7⟩:∃ V,w6.alloc (.cells #[.slice d0 x0 y0,.slice d1 x1 y1,.slice d2 x2 y2,.slice d3 x3 y3] 28)=V:=⟨_,rfl⟩;have Bw7:Below w6.heap.size w6 w7:=hw7 ▸ dm;have XW_:=af (show BX w7 w6.heap.size 28 [.slice d0 x0 y0,.slice d1 x1 y1,.slice d2 x2 y2,.slice d3 x3 y3] from hw7 ▸ BX.new w6 _ _);have HW:=af (hko.below Bw7);obtain ⟨XK_,XC_,Bw,B3⟩:=onK Bw7 XK_ XC_ Bw B3;obtain ⟨XO_,HO⟩:=onO Bw7 XO_ HO;clear hko hb Bw7 HI HS;have o0:=XO_.o.c4;have t0:=XW_.o.c4;go_wp2_with fail
  try rw [hw7]
  clear hw7 o0;clear t0;refine (adE r.1 _ _ _ _ _ _ _ _ _ HO.o.rk HW.o.rk).mono ?_;rintro en w8 ⟨rfl,hb⟩;obtain ⟨XK_,XC_,Bw,B3⟩:=onK hb XK_ XC_ Bw B3;obtain ⟨XO_,HO⟩:=onO hb XO_ HO;obtain ⟨XW_,HW⟩:=onO hb XW_ HW;clear hb
  by_cases h5:r.2.2=5
  ·have h5b:(r.2.2==5)=true:=by simpa using h5
   clear h5;obtain ⟨c0,c1,c2,c3,c4,c5⟩:=XC_.o.c6;have o0:=XO_.o.c4;have t0:=XW_.o.c4;go_wp2_with fail;refine (adE r.1 _ _ _ _ _ _ _ _ _ HO.o.rk HW.o.rk).mono ?_;rintro en w9 ⟨rfl,hb⟩;obtain ⟨XK_,XC_,Bw,B3⟩:=onK hb XK_ XC_ Bw B3;obtain ⟨XO_,HO⟩:=onO hb XO_ HO;obtain ⟨XW_,HW⟩:=onO hb XW_ HW;clear hb o0;clear t0 c0 c1 c2 c3 c4 c5;go_wp2_with fail;go_ret;exact ⟨rfl,Bw.o⟩
  have h5b:(r.2.2==5)=false:=by simpa using h5
  have H5:=af h5;clear h5
  by_cases hd:r.2.2=0
  case neg =>
   have hdb:(r.2.2 != 0)=true:=by simpa using hd
   clear hd;obtain ⟨c0,c1,c2,c3,c4,c5⟩:=XC_.o.c6;have o0:=XO_.o.c4;have t0:=XW_.o.c4;go_wp2_with fail;refine (adE r.1 _ _ _ _ _ _ _ _ _ HO.o.rk HW.o.rk).mono ?_;rintro en w9 ⟨rfl,hb⟩;obtain ⟨XK_,XC_,Bw,B3⟩:=onK hb XK_ XC_ Bw B3;obtain ⟨XO_,HO⟩:=onO hb XO_ HO;obtain ⟨XW_,HW⟩:=onO hb XW_ HW;clear hb o0;clear t0 c0 c1 c2 c3 c4 c5;go_wp2_with fail;go_ret;exact ⟨rfl,Bw.o⟩
  by_cases hk:bQ=8
  case neg =>
   have hdb:(r.2.2 != 0)=false:=by simpa using hd
   have hkb:(bQ != 8)=true:=by simpa using hk
   clear hd hk;obtain ⟨c0,c1,c2,c3,c4,c5⟩:=XC_.o.c6;have o0:=XO_.o.c4;have t0:=XW_.o.c4;go_wp2_with fail;refine (adE r.1 _ _ _ _ _ _ _ _ _ HO.o.rk HW.o.rk).mono ?_;rintro en w9 ⟨rfl,hb⟩;obtain ⟨XK_,XC_,Bw,B3⟩:=onK hb XK_ XC_ Bw B3;obtain ⟨XO_,HO⟩:=onO hb XO_ HO;obtain ⟨XW_,HW⟩:=onO hb XW_ HW;clear hb o0;clear t0 c0 c1 c2 c3 c4 c5;go_wp2_with fail;go_ret;exact ⟨rfl,Bw.o⟩
  subst hk;have Hd:=af hd;have hdb:(r.2.2 != 0)=false:=by simpa using hd
  clear hd
  by_cases hae:ca=JF
  case pos =>
   have haeb:(ca==JF)=true:=by simpa using hae
   clear hae;obtain ⟨c0,c1,c2,c3,c4,c5⟩:=XC_.o.c6;have o0:=XO_.o.c4;have t0:=XW_.o.c4;go_wp2_with fail;refine (adE r.1 _ _ _ _ _ _ _ _ _ HO.o.rk HW.o.rk).mono ?_;rintro en w9 ⟨rfl,hb⟩;obtain ⟨XK_,XC_,Bw,B3⟩:=onK hb XK_ XC_ Bw B3;obtain ⟨XO_,HO⟩:=onO hb XO_ HO;obtain ⟨XW_,HW⟩:=onO hb XW_ HW;clear hb o0;clear t0 c0 c1 c2 c3 c4 c5;go_wp2_with fail;go_ret;exact ⟨rfl,Bw.o⟩
  have haeb:(ca==JF)=false:=by simpa using hae
  have HP:=af (adQ (k:=k) (c:=⟨8,JF,ca,cb,cc,bg⟩) (by rw [HX.o];exact H5.o));have HC:=af (show Kx.cO k ⟨8,JF,ca,cb,cc,bg⟩=r from HP.o.2.2.1.symm.trans HX.o);have Yy:=af (Kx.nN.1 HP.o.1);obtain ⟨ha0,ha2,hro,-⟩:=Kx.grant_done Yy.o (c:=⟨8,JF,ca,cb,cc,bg⟩) rfl (by rw [HC.o];exact Hd.o);have hGR:=Kx.grant_revoke Yy.o (c:=⟨8,JF,ca,cb,cc,bg⟩) HP.o.2.1 rfl (by rw [HC.o];exact Hd.o) hae;rw [HC.o] at hGR;simp only at ha0 ha2 hro hGR;obtain ⟨a,rfl⟩:=Int.eq_ofNat_of_zero_le ha0;rw [show ((a:Int)).toNat=a from rfl] at hGR;have ha:a<3:=by omega
  have HOr:=af (show Kx.Ok r.1 from Kx.nN.1 (by have:=HP.o.2.2.2;rw [HX.o] at this;exact this));have hRr:=HOr.o.Lm a ha;obtain ⟨L,hL⟩:=XP (Kx.jm (Kx.au r.1.ah a).aB bg);have HL:=af (show ∀ s ∈ L,Kx.pre bg s=false/\Kx.bT s=true from fun s hs=>by
   rw [<-hL] at hs;have h1:=List.mem_filter.1 hs;exact ⟨by simpa using h1.2,(gJ.1 hRr).1 s h1.1⟩)
  rw [hL] at hGR;have hLl:L.length<=6:=by rw [<-hL];exact (gJ.1 (z_ bg hRr)).2.2
  have HGR:=af hGR;have mW:=af hro;have Ha:=af ha;clear ha0 ha2 hro hGR ha hRr hL;have hne1:w4.heap.size≠u1.heap.size:=XO_.o.ne XC_.o (by decide);have Xc9:=af (show BX (w8.setCell ⟨u1.heap.size,0,none⟩ (I_ 9)) u1.heap.size 30 [I_ 9,I_ JF,I_ (a:Int),I_ cb,I_ cc,.string bg] from XC_.o.set 0 _);have Xo9:=af (show BX (w8.setCell ⟨u1.heap.size,0,none⟩ (I_ 9)) w4.heap.size 28 [.slice b0 q0 z0,.slice b1 q1 z1,.slice b2 q2 z2,.slice b3 q3 z3] from XO_.o.other hne1 0 _);have Uc:=af (HO.o.box XC_.o boxCall 0 (I_ 9));have Bw9:=af (Bw.o.setCell (p:=⟨u1.heap.size,0,none⟩) Hu1.o (I_ 9));obtain ⟨c0,c1,c2,c3,c4,c5⟩:=XC_.o.c6;have f0:=XC_.o.frozen 0;have o0:=Xo9.o.c4;obtain ⟨d0,d1,d2,d3,d4,d5⟩:=Xc9.o.c6;go_wp2_with fail;obtain ⟨s9,hs9⟩:∃ V,w8.setCell ⟨u1.heap.size,0,none⟩ (I_ 9)=V:=⟨_,rfl⟩
  rw [hs9] at Xc9 Xo9 Uc Bw9 ⊢;clear c0 c1 c2 c3 c4 c5 o0;clear d0 d1 d2 d3 d4 d5 f0 hs9 hne1 XC_ XO_ HO Bw;have HI2:=af (adb r.1 ⟨9,JF,(a:Int),cb,cc,bg⟩ _ _ _ _ s9 Uc.o.rk (jX (Kx.nN.2 HOr.o)) Hnm.o Hcm.o);obtain ⟨r2,hr2⟩:=XP (Kx.QH r.1 ⟨9,JF,(a:Int),cb,cc,bg⟩);rw [hr2] at HI2 HGR;unfold dW at HI2;clear hr2;refine HI2.o.mono ?_;rintro en w12 ⟨_,_,_,_,rfl,hko,hb⟩;obtain ⟨⟨e0,i0,j0,rfl⟩,⟨e1,i1,j1,rfl⟩,⟨e2,i2,j2,rfl⟩,⟨e3,i3,j3,rfl⟩⟩:=hko.sl;have XC_:=af (Xc9.o.below hb);have XO_:=af (Xo9.o.below hb);have HO:=af (Uc.o.below hb);have Bw:=af (Bw9.o.trans (hb.mono Bw9.o.size));obtain ⟨YN,Ny⟩:∃ V,w12.alloc (.cells #[.slice e0 i0 j0,.slice e1 i1 j1,.slice e2 i2 j2,.slice e3 i3 j3] 28)=V:=⟨_,rfl⟩;have Bw13:Below w12.heap.size w12 YN:=Ny ▸ dm
  have XY_:=af (show BX YN w12.heap.size 28 [.slice e0 i0 j0,.slice e1 i1 j1,.slice e2 i2 j2,.slice e3 i3 j3] from Ny ▸ BX.new w12 _ _);have HY_:=af (hko.below Bw13);replace XC_:=af (XC_.o.below Bw13);replace XO_:=af (XO_.o.below Bw13);replace HO:=af (HO.o.below Bw13);replace Bw:=af (Bw.o.trans (Bw13.mono Bw.o.size));clear hko hb Bw13 HI2 Xc9 Xo9 Uc Bw9;rcases HGR.o with ⟨q1,q2,q3⟩ | ⟨q1,q2⟩
  ·have hzb:(r2.2.2 != 0)=false:=by simp [q1]
   obtain ⟨bx,ox,qx_,ux,ex,lx,yx_,sx,rx⟩:=HY_.o.rk.e.at (k:=a) (by rw [q3];exact Ha.o);obtain ⟨rfl,rfl,rfl⟩:=Za ex;clear ex;have iax:(a:Int)<(r2.1.ah.length:Int):=by rw [q3];have:=Ha.o;omega
   rw [q2] at rx;obtain ⟨ax_,cx,ex,hx1,hx2⟩:=RS.val rx;subst ex;have Rx_:=af rx;have Yx_:=af yx_;have Lx:=af lx;clear q1 q2 q3 yx_ sx rx lx hx1 hx2;go_wp2_with fail;go_loopw [14] (fun i wr=>∃ j:Nat,i=I_ j/\j<=L.length/\TI (Below YN.heap.size YN wr)) (fun i _=>L.length - (intOf i).toNat)
   case atStart=>exact ⟨0,rfl,Nat.zero_le _,Below.refl _ _⟩
   case round =>
    obtain ⟨j,rfl,hj,hb⟩:=hrel;have y2:=(XY_.o.below hb.o).cell 2;have c2:=(XC_.o.below hb.o).cell 2;simp only [List.getElem?_cons_zero,List.getElem?_cons_succ] at y2 c2;have yx_:=(hb.o.cell (p:=⟨bx,ox+a*2,none⟩) Lx.o).trans Yx_.o
    by_cases hlt:j<L.length
    ·have Q5:(j:Int)<(L.length:Int):=by omega
     have Js:=af hlt;obtain ⟨bs,os,qs,es,ls,ys⟩:=dK.at2 (RS.below Rx_.o hb.o) hlt;obtain ⟨rfl,_,rfl⟩:=Za es;clear es;obtain ⟨s,hs⟩:=XP (L.getD j ByteArray.empty);have HS:=af (HL.o s (by rw [<-hs,List.getD_eq_getElem?_getD,List.getElem?_eq_getElem hlt];exact List.getElem_mem hlt));rw [hs] at ys;have HB:=af hb.o;have lxr:=Nat.lt_of_lt_of_le Lx.o hb.o.size;have R_:=af (fun W=>implRightCovers_c bg s W mW.o HS.o.2 Hnm.o (by have:=HS.o.2;unfold Kx.bT at this;simp only [Bool.and_eq_true,decide_eq_true_eq] at this;omega))
     have IK_:=af (show ∀ W,Below wr.heap.size wr W->(W.cell? ⟨w12.heap.size,2,none⟩=some (.slice (some ⟨bx,ox,none⟩) r2.1.ah.length j2)/\W.cell? ⟨u1.heap.size,2,none⟩=some (I_ (a:Int))/\W.cell? ⟨u1.heap.size,5,none⟩=some (.string bg)/\W.cell? ⟨bx,ox+a*2,none⟩=some (.slice (some ⟨bs,os,none⟩) L.length cx)/\W.cell? ⟨bs,os+j,none⟩=some (.string s)) from fun W h=>⟨((XY_.o.below HB.o).below h).cell 2,((XC_.o.below HB.o).below h).cell 2,((XC_.o.below HB.o).below h).cell 5,(h.cell (p:=⟨bx,ox+a*2,none⟩) lxr).trans yx_,(h.cell (p:=⟨bs,os+j,none⟩) ls).trans ys⟩)
     go_wp2_with fail;clear y2 c2 yx_ ys ls lxr hs hlt;have hb8:=Below.refl wr.heap.size wr;have hS0:=IK_.o _ (Below.bz hb8);refine afi IK_ fun hHeld=>?_
     clear hS0;refine afW 0 ?_;refine afV 8 ?_;refine ahk 12 fun K hK=>?_
     (go_simp;go_at_call 27;refine (R_.o _).mono ?_;rintro en w9 ⟨rfl,hb⟩;have hb9:=hb8.trans ((Below.gG hb).mono hb8.size);clear hb;have hS9:=IK_.o w9 hb9;rw [HS.o.1];go_wp2_with fail)
     refine afS hK fun hHeld=>?_
     clear hK K;refine wpAnyH_done (by kernel_rfl) ?_ _;go_wp2_with fail;go_roundw
     case rel=>exact ⟨j+1,by go_num,Js.o,HB.o.trans (hb9.mono HB.o.size)⟩
     case measure=>have:=Js.o;simp [intOf];omega
    obtain rfl:j=L.length:=by omega
    go_wp2_with fail;go_ret;exact ⟨rfl,Bw.o.trans (hb.o.mono Bw.o.size)⟩
  have hzb:(r2.2.2 != 0)=true:=by simp [q1]
  have h2b:(r2.2.2==2)=true:=by simp [q1]
  have HYk:=af (show RK YN _ _ _ _ r.1 by have:=HY_.o.rk;rw [q2] at this;exact this);clear q1 q2;obtain ⟨y0,y1,y2,y3⟩:=XY_.o.c4;have o0:=XO_.o.c4;go_wp2_with fail;refine (adE r.1 _ _ _ _ _ _ _ _ _ HYk.o HO.o.rk).mono ?_;rintro en w14 ⟨rfl,hb⟩;clear y0 y1 y2 y3 o0;go_wp2_with fail;go_ret;exact ⟨rfl,Bw.o.trans (hb.mono Bw.o.size)⟩
 have hI0:(1048576:Int)<(len0:Int):=by omega
 clear h0;go_enter func7,ntmps7;go_wp2_with fail;go_ret;exact ⟨rfl,Below.refl _ _⟩
theorem qIn:(Rows.fnGrantRevokeRow.inPlace==Tryz.pinned.checked.prog.inPlace 7)=true:=by kernel_rfl
theorem qUn:(Rows.fnGrantRevokeRow.unfollowed==Tryz.pinned.checked.prog.unfollowed 7)=true:=by kernel_rfl
theorem qRe:(Rows.fnGrantRevokeRow.recurses==Tryz.pinned.checked.prog.recurses 7)=true:=by kernel_rfl
theorem qNa:(Rows.fnGrantRevokeRow.named==Tryz.pinned.checked.prog.varsNamed 7)=true:=by kernel_rfl
end Go.Proofs.YtmmjmckajcfffaaGreatDoor
