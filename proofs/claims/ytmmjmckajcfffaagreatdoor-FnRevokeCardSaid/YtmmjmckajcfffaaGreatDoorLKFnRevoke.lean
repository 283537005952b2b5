/- The law FnRevoke: rights are taken. (printed by klc.py) -/
import Derived.Test.YtmmjmckajcfffaaGreatDoorKMn
set_option linter.all false
set_option maxHeartbeats 8000000
set_option maxRecDepth 100000
open Go.Proofs.Tryz
open Go.Value renaming slice->A0
namespace Go.Proofs.YtmmjmckajcfffaaGreatDoor
open Go.RowKit Kx
theorem acO (r:List Kx.Str) (g:Kx.Str) (u:Value) (w:World) (hr:dK w u r) (Zq:Dw r) (hro:aS r=true) (hg:bT g=true) (hgs:g.size<=9223372036854775807) :
  Calls prog 19 #[u,.string g] w fun e w'=>e=.returned (.bool (Kx.may r g))/\Below w.heap.size w w':=by
 have HR:=af hr;have Hsr:=af Zq;have mW:=af hro;have Hg:=af hg;have YI:=af hgs;clear hr Zq hro hg hgs;go_enter func19,ntmps19;go_wp2_with fail;refine (eG r _ _ HR.o Hsr.o).mono ?_;rintro e w3 ⟨rfl,hb⟩;rw [mW.o];have B0:=af hb;clear hb;go_wp2_with fail;refine (oM g _ YI.o).mono ?_;rintro e w4 ⟨rfl,hb⟩;rw [Hg.o];replace B0:=af (B0.o.trans (hb.mono B0.o.size));clear hb;go_wp2_with fail;refine (AP r g _ _ (RS.below HR.o B0.o)).mono ?_;rintro e w5 ⟨rfl,hb⟩;replace B0:=af (B0.o.trans (hb.mono B0.o.size));clear hb;obtain ⟨ans,hans⟩:∃ b,Kx.may r g=b:=⟨_,rfl⟩;rw [hans];have pI:=af hans;clear hans;go_wp2_with fail;go_ret;exact ⟨by rw [pI.o];rfl,B0.o⟩
theorem uw (k:Kx.Kernel) (env:Int) (vm vi ve vc:Value) (w:World) (h:RK w vm vi ve vc k) (hs:iQ k) :
  Calls prog 29 #[.agg #[vm,vi,ve,vc],I_ env] w (mZ w (fU (qx k env))):=by
 obtain ⟨w0,hw0⟩:=XP (w.alloc (.cells #[vm,vi,ve,vc] 28));have B0:=af (show Below w.heap.size w w0 from hw0 ▸ dm);have X0:=af (show BX w0 w.heap.size 28 [vm,vi,ve,vc] from (hw0 ▸ BX.new w _ _:BX w0 _ _ _));have HK:=af (h.below B0.o);obtain ⟨_,ae,ce,rfl,_,_⟩:=h.e.len;have HV:=af (show qx k env=if !az k||!Kx.bK env 0 2 then [] else Kx.reach k.mem (au k.ah env.toNat).root from rfl);have HC:=af (mX k vm vi _ vc w0 HK.o hs);have Hno:=af (show ∀ W,Below w.heap.size w W->qx k env=[]->mZ w (fU (qx k env)) (.returned (A0 none 0 0)) W from fun W hb e=>⟨_,rfl,by rw [e];exact ⟨World.ownsRow_nil _ _ _ _,by decide⟩,hb⟩)
 have k0:=X0.o.c4;clear h hs;go_enter func29,ntmps29;go_wp2_with fail;clear hw0;refine HC.o.mono ?_;rintro e w1 ⟨rfl,hb⟩;replace B0:=af (B0.o.trans (hb.mono B0.o.size));replace X0:=af (X0.o.below hb);replace HK:=af (HK.o.below hb);clear hb HC k0
 cases hv:az k with
 | false =>
  have HF:=af (Hno.o w1 B0.o (by rw [HV.o,hv];rfl));clear hv HV Hno;go_wp2_with fail;go_ret;exact HF.o
 | true =>
  have V1:=af hv;clear hv;go_wp2_with fail;refine (BR _ _).mono ?_;rintro e w' ⟨rfl,rfl⟩
  cases hv:Kx.bK env 0 2 with
  | false =>
   have HF:=af (Hno.o w1 B0.o (by rw [HV.o,hv];simp));clear hv HV Hno;go_wp2_with fail;go_ret;exact HF.o
  | true =>
   obtain ⟨h0,h2⟩:=Kx.ay.1 hv;obtain ⟨a,rfl⟩:=Int.eq_ofNat_of_zero_le h0;obtain ⟨hmo,jI,h12,hco,h3,hro⟩:=aI V1.o;have PX:a<3:=by omega
   have mW:=af (hro a PX);have HF:=af (show qx k a=Kx.reach k.mem (au k.ah a).root by rw [HV.o,V1.o,hv];simp);have Oo:(a:Int)<(k.ah.length:Int):=by omega
   obtain ⟨b,off,cap,u,ev,hbb,_,g2,_⟩:=HK.o.e.at (k:=a) (by omega);obtain ⟨rfl,_,rfl⟩:=Za ev;clear ev;have k0:=X0.o.c4;have HM:=af HK.o.m;have kG:=af hmo;clear hv HV Hno h0 hbb hmo jI h12 hco h3 hro PX;generalize (au k.ah a).root=r at g2 HF mW;go_wp2_with fail;go_still_tail 8,(by kernel_rfl)
   change wpList _ _ _ _ _ w1.drew;have Bd:Below w1.heap.size w1 w1.drew:=Below.bz fZ;obtain ⟨d,hd⟩:=XP w1.drew;rw [hd] at Bd ⊢;replace B0:=af (B0.o.trans (Bd.mono B0.o.size));replace HM:=af (HM.o.below Bd);clear hd Bd k0 g2;go_wp2_with fail;refine (og k.mem r _ _ HM.o kG.o mW.o).mono ?_;rintro e w3 ⟨u3,rfl,ho,hb⟩;rw [<-HF.o] at ho;have Ho:=af (ho.mono B0.o.size);replace B0:=af (B0.o.trans (hb.mono B0.o.size));clear hb ho;go_wp2_with fail;go_ret;exact ⟨_,rfl,Ho.o,B0.o⟩

theorem nmW {B:Nat} {w W:World} (_h:TI (Below B w W)):∃ V,W=V:=⟨_,rfl⟩
theorem onK {W V u v:World} {g h s t:Nat} {l m:List Value} (d:Below W.heap.size W V) (K:TI (BX W g s l)) (C:TI (BX W h t m)) (B:TI (Below u.heap.size u W)) (D:TI (Below v.heap.size v W)):TI (BX V g s l)/\TI (BX V h t m)/\TI (Below u.heap.size u V)/\TI (Below v.heap.size v V):=⟨K.o.below d,C.o.below d,B.o.trans (d.mono B.o.size),D.o.trans (d.mono D.o.size)⟩
theorem onO {W V:World} {g s b:Nat} {l:List Value} {um ui ue uc:Value} {k:Kx.Kernel} (d:Below W.heap.size W V) (K:TI (BX W g s l)) (H:TI (KO W b um ui ue uc k)):TI (BX V g s l)/\TI (KO V b um ui ue uc k):=⟨K.o.below d,H.o.below d⟩
theorem ac' {P:Program} {ops:Array Oper} {Q:Exit->Act->World->Prop} {md:Region.Mode} {S:World->Prop} {o1:Oper} {v1:Value} {fuel:Nat} {listed l1:Array Bool} {a a1:Act} {w:World} (i:Nat) (h:wpAnyH P md ops Q S fuel l1 a1 w) (hS:S w:=by assumption) (h1:Stp P md ops Q S i o1 v1 listed l1 a a1:=by exact stp):wpAnyH P md ops Q S (fuel+1) listed a w:=h1.go hS h
end Go.Proofs.YtmmjmckajcfffaaGreatDoor
namespace Kx
theorem callK_done {k:Kernel} {c:Call} (h:(cO k c).2.2=0):qm k c=cO k c:=by
 unfold cO at *;split
 ·rename_i h1;rw [if_pos h1] at h;exact absurd h h1
 rfl
theorem revoke_done {k:Kernel} (hk:Ok k) {c:Call} (h9:c.kind=9) (h:(cO k c).2.2=0) :
  0<=c.a/\c.a<=2/\c.a≠c.env/\bT c.name=true/\jQ k c.env c.name=true/\(cO k c).1.mem=k.mem/\(cO k c).1.ag=k.ag/\(au (cO k c).1.ah c.a.toNat).aB=jm (au k.ah c.a.toNat).aB c.name/\(au (cO k c).1.ah c.a.toNat).root=(au k.ah c.a.toNat).root/\(cO k c).1.ah.length=3 /\
   allowed k.ag (reach k.mem (au k.ah c.a.toNat).root) (jm (au k.ah c.a.toNat).aB c.name)=true:=by
 have e:=callK_done h;rw [<-e] at h ⊢;have e2:qm k c=f_ k c:=by simp [qm,h9]
 rw [e2] at h ⊢;unfold f_ at h ⊢;split at h
 ·exact absurd h (by simp)
 split at h
 ·exact absurd h (by simp)
 rename_i h1 h2
 rw [if_neg (by omega)] at h;split at h
 ·exact absurd h (by simp)
 rename_i h3
 rw [if_neg h1,if_neg h2,if_neg (by omega),if_neg h3];have hx:bK c.a 0 2=true/\bT c.name=true/\c.a≠c.env:=by
  refine ⟨?_,?_,fun e=>?_⟩
  ·cases ha:bK c.a 0 2 with
   | true=>rfl
   | false=>rw [ha] at h1;exact absurd rfl h1
  ·cases ha:bT c.name with
   | true=>rfl
   | false=>rw [ha] at h1;simp at h1
  rw [e,h9] at h1;simp at h1
 have ha:=ay.1 hx.1;have hl:c.a.toNat<k.ah.length:=by rw [hk.e3];omega
 refine ⟨ha.1,ha.2,hx.2.2,hx.2.1,by simpa using h2,rfl,rfl,?_,?_,?_,by simpa using h3⟩
 ·show (au (aY k.ah c.a.toNat _) c.a.toNat).aB=_
  unfold aY;rw [mr hl,if_pos rfl]
 ·show (au (aY k.ah c.a.toNat _) c.a.toNat).root=_
  unfold aY;rw [mr hl,if_pos rfl]
 show (aY k.ah c.a.toNat _).length=3
 unfold aY;rw [List.length_set,hk.e3]
theorem guard_ok {k:Kernel} (hk:Ok k) {f:Nat} (hf:f<12):bT (inf k.ag f).guard=true:=by
 rcases gZ.1 (hk.I8 f hf) with h | h
 ·rw [h];rfl
 exact h.2.2.1
theorem allowed_at {l:List aG} {fs:List Nat} {r:List Str} (h:allowed l fs r=true) {f:Nat} (hf:f ∈ fs):may r (inf l f).guard=true:=List.all_eq_true.1 h f hf
end Kx
namespace Go.Proofs.YtmmjmckajcfffaaGreatDoor
open Go.RowKit Kx

theorem FnRevoke_c (a:Option Addr) (len0 cap0:Nat) (zr:List Int) (w:World) (h0:abT .u8 w a len0 cap0 zr) :
  Calls prog 8 #[.slice a len0 cap0] w (aez w):=by
 by_cases hl0:len0<=1048576
 ·have hI0:¬ (1048576:Int)<(len0:Int):=by omega
  have Hr:=af (abT.rb h0);clear h0;go_enter func8,ntmps8;go_wp2_with fail;clear hI0;refine (adi _ _ _ Hr.o).mono ?_;rintro en w1 ⟨k,⟨bQ,JF,ca,cb,cc,bg⟩,_,_,_,_,rfl,hsl,hs,hnm,hcm,hk,hb⟩;obtain ⟨⟨a0,n0,m0,rfl⟩,⟨a1,n1,m1,rfl⟩,⟨a2,n2,m2,rfl⟩,⟨a3,n3,m3,rfl⟩⟩:=hsl;unfold dW;obtain ⟨u1,hu1⟩:∃ V,w1.alloc (.cells #[.slice none 0 0,.slice none 0 0,.slice none 0 0,.slice none 0 0] 28)=V:=⟨_,rfl⟩;obtain ⟨u2,hu2⟩:∃ V,u1.alloc (.cells #[I_ 0,I_ 0,I_ 0,I_ 0,I_ 0,.string ⟨#[]⟩] 30)=V:=⟨_,rfl⟩;have Bu1:Below w1.heap.size w1 u1:=hu1 ▸ dm;have Bu2:Below u1.heap.size u1 u2:=hu2 ▸ dm;have su_:w1.heap.size<u1.heap.size:=by rw [<-hu1];simp
  have YK_:=af (show BX u2 w1.heap.size 28 [.slice none 0 0,.slice none 0 0,.slice none 0 0,.slice none 0 0] from (hu1 ▸ BX.new w1 _ _:BX u1 _ _ _).below Bu2);have YC_:=af (show BX u2 u1.heap.size 30 [I_ 0,I_ 0,I_ 0,I_ 0,I_ 0,.string ⟨#[]⟩] from hu2 ▸ BX.new u1 _ _);have BU_:=af (Bu1.trans (Bu2.mono Bu1.size));have p0:=YK_.o.c4;obtain ⟨q0,q1,q2,q3⟩:=YK_.o.f4;have Y1_:=BX.iq (Nat.ne_of_gt su_) [.slice a0 n0 m0,.slice a1 n1 m1,.slice a2 n2 m2,.slice a3 n3 m3] 0 YC_.o;have Y0_:=YK_.o.sets [.slice a0 n0 m0,.slice a1 n1 m1,.slice a2 n2 m2,.slice a3 n3 m3] rfl;rw [<-afA] at Y0_ Y1_;have Y2:=Y1_.sets [I_ bQ,I_ JF,I_ ca,I_ cb,I_ cc,.string bg] rfl;have Y3_:=BX.iq (Nat.ne_of_lt su_) [I_ bQ,I_ JF,I_ ca,I_ cb,I_ cc,.string bg] 0 Y0_
  have BF:=dP (Nat.le_of_lt su_) [I_ bQ,I_ JF,I_ ca,I_ cb,I_ cc,.string bg] 0 (dP aW [.slice a0 n0 m0,.slice a1 n1 m1,.slice a2 n2 m2,.slice a3 n3 m3] 0 BU_.o);rw [<-afA] at BF;rw [<-afB] at Y2 Y3_ BF;obtain ⟨d0,d1,d2,d3,d4,d5⟩:=Y1_.c6;have f0:=Y1_.frozen 0;have f1:=Y1_.frozen 1;have f2:=Y1_.frozen 2;have f3:=Y1_.frozen 3;have f4:=Y1_.frozen 4;have f5:=Y1_.frozen 5;have e0:=Y3_.c4;have g0:=Y2.c6;have HY2:=af Y2;have HY3:=af Y3_;have HBF:=af BF;clear Y0_ Y1_ Y2 Y3_ BF YK_ YC_ BU_ Bu1 Bu2;go_wp2_with fail;clear hu1 hu2 p0 q0 q1 q2 q3 d0 d1 d2 d3 d4 d5 f0 f1 f2 f3 f4 f5 e0 g0;obtain ⟨w3,hw3⟩:=nmW HBF;rw [hw3] at HY2 HY3 HBF ⊢;have XK_:=HY3;have XC_:=HY2;have TP:=HBF.o;have Bw:=af (hb.trans (TP.mono hb.size));have HR:=af (fun W (h:Below w3.heap.size w3 W)=>(hk.below TP).below h)
  have Hs:=af hs;have HI:=af (fun W (h:Below w3.heap.size w3 W)=>adb k ⟨bQ,JF,ca,cb,cc,bg⟩ _ _ _ _ W (HR.o W h) hs hnm hcm)
  have HS:=af (fun W (h:Below w3.heap.size w3 W)=>ac9 k ⟨bQ,JF,ca,cb,cc,bg⟩ _ _ _ _ W (HR.o W h) hs hnm)
  have Hnm:=af hnm;have Hcm:=af hcm;obtain ⟨r,hr⟩:=XP (QH k ⟨bQ,JF,ca,cb,cc,bg⟩);have HX:=af hr;rw [hr] at HI HS;unfold dW at HI HS;have B3:=af (Below.refl w3.heap.size w3);clear hs hnm hcm hk hb TP Hr hr hw3 HY2 HY3 HBF;refine (HI.o w3 B3.o).mono ?_;rintro en w4 ⟨_,_,_,_,rfl,hko,hb⟩;obtain ⟨⟨b0,q0,z0,rfl⟩,⟨b1,q1,z1,rfl⟩,⟨b2,q2,z2,rfl⟩,⟨b3,q3,z3,rfl⟩⟩:=hko.sl;obtain ⟨XK_,XC_,Bw,B3⟩:=onK hb XK_ XC_ Bw B3;obtain ⟨w5,hw5⟩:∃ V,w4.alloc (.cells #[.slice b0 q0 z0,.slice b1 q1 z1,.slice b2 q2 z2,.slice b3 q3 z3] 28)=V:=⟨_,rfl⟩;have Bw5:Below w4.heap.size w4 w5:=hw5 ▸ dm;have XO_:=af (show BX w5 w4.heap.size 28 [.slice b0 q0 z0,.slice b1 q1 z1,.slice b2 q2 z2,.slice b3 q3 z3] from hw5 ▸ BX.new w4 _ _);have HO:=af (hko.below Bw5);obtain ⟨XK_,XC_,Bw,B3⟩:=onK Bw5 XK_ XC_ Bw B3;clear hko hb Bw5;have p0:=XK_.o.c4;have c0:=XC_.o.c6
  go_wp2_with fail
  try rw [hw5]
  clear hw5 p0;clear c0;refine (HS.o w5 B3.o).mono ?_;rintro en w6 ⟨_,_,_,_,rfl,hko,hb⟩;obtain ⟨⟨d0,x0,y0,rfl⟩,⟨d1,x1,y1,rfl⟩,⟨d2,x2,y2,rfl⟩,⟨d3,x3,y3,rfl⟩⟩:=hko.sl;obtain ⟨XK_,XC_,Bw,B3⟩:=onK hb XK_ XC_ Bw B3;obtain ⟨XO_,HO⟩:=onO hb XO_ HO;obtain ⟨w7,hw7⟩:∃ V,w6.alloc (.cells #[.slice d0 x0 y0,.slice d1 x1 y1,.slice d2 x2 y2,.slice d3 x3 y3] 28)=V:=⟨_,rfl⟩;have Bw7:Below w6.heap.size w6 w7:=hw7 ▸ dm;have XW_:=af (show BX w7 w6.heap.size 28 [.slice d0 x0 y0,.slice d1 x1 y1,.slice d2 x2 y2,.slice d3 x3 y3] from hw7 ▸ BX.new w6 _ _);have HW:=af (hko.below Bw7);obtain ⟨XK_,XC_,Bw,B3⟩:=onK Bw7 XK_ XC_ Bw B3;obtain ⟨XO_,HO⟩:=onO Bw7 XO_ HO;clear hko hb Bw7 HI HS;have o0:=XO_.o.c4;have t0:=XW_.o.c4;go_wp2_with fail
  try rw [hw7]
  clear hw7 o0;clear t0;refine (adE r.1 _ _ _ _ _ _ _ _ _ HO.o.rk HW.o.rk).mono ?_;rintro en w8 ⟨rfl,hb⟩;obtain ⟨XK_,XC_,Bw,B3⟩:=onK hb XK_ XC_ Bw B3;obtain ⟨XO_,HO⟩:=onO hb XO_ HO;obtain ⟨XW_,HW⟩:=onO hb XW_ HW;clear hb
  by_cases h5:r.2.2=5
  ·have h5b:(r.2.2==5)=true:=by simpa using h5
   clear h5;have c0:=XC_.o.c6;have o0:=XO_.o.c4;have t0:=XW_.o.c4;go_wp2_with fail;refine (adE r.1 _ _ _ _ _ _ _ _ _ HO.o.rk HW.o.rk).mono ?_;rintro en w9 ⟨rfl,hb⟩;obtain ⟨XK_,XC_,Bw,B3⟩:=onK hb XK_ XC_ Bw B3;obtain ⟨XO_,HO⟩:=onO hb XO_ HO;obtain ⟨XW_,HW⟩:=onO hb XW_ HW;clear hb o0;clear t0 c0;go_wp2_with fail;go_ret;exact ⟨rfl,Bw.o⟩
  have h5b:(r.2.2==5)=false:=by simpa using h5
  have H5:=af h5;clear h5
  by_cases hd:r.2.2=0
  case neg =>
   have hdb:(r.2.2 != 0)=true:=by simpa using hd
   clear hd;have c0:=XC_.o.c6;have o0:=XO_.o.c4;have t0:=XW_.o.c4;go_wp2_with fail;refine (adE r.1 _ _ _ _ _ _ _ _ _ HO.o.rk HW.o.rk).mono ?_;rintro en w9 ⟨rfl,hb⟩;obtain ⟨XK_,XC_,Bw,B3⟩:=onK hb XK_ XC_ Bw B3;obtain ⟨XO_,HO⟩:=onO hb XO_ HO;obtain ⟨XW_,HW⟩:=onO hb XW_ HW;clear hb o0;clear t0 c0;go_wp2_with fail;go_ret;exact ⟨rfl,Bw.o⟩
  by_cases hk:bQ=9
  case neg =>
   have hdb:(r.2.2 != 0)=false:=by simpa using hd
   have hkb:(bQ != 9)=true:=by simpa using hk
   clear hd hk;have c0:=XC_.o.c6;have o0:=XO_.o.c4;have t0:=XW_.o.c4;go_wp2_with fail;refine (adE r.1 _ _ _ _ _ _ _ _ _ HO.o.rk HW.o.rk).mono ?_;rintro en w9 ⟨rfl,hb⟩;obtain ⟨XK_,XC_,Bw,B3⟩:=onK hb XK_ XC_ Bw B3;obtain ⟨XO_,HO⟩:=onO hb XO_ HO;obtain ⟨XW_,HW⟩:=onO hb XW_ HW;clear hb o0;clear t0 c0;go_wp2_with fail;go_ret;exact ⟨rfl,Bw.o⟩
  subst hk;have Hd:=af hd;have hdb:(r.2.2 != 0)=false:=by simpa using hd
  clear hd;have HP:=af (adQ (k:=k) (c:=⟨9,JF,ca,cb,cc,bg⟩) (by rw [HX.o];exact H5.o));have HC:=af (show Kx.cO k ⟨9,JF,ca,cb,cc,bg⟩=r from HP.o.2.2.1.symm.trans HX.o);have Yy:=af (nN.1 HP.o.1);obtain ⟨ha0,ha2,hne,hro,wR,D_,lL,hrt,hroot,hr4,hall⟩:=Kx.revoke_done Yy.o (c:=⟨9,JF,ca,cb,cc,bg⟩) rfl (by rw [HC.o];exact Hd.o);rw [HC.o] at D_ lL hrt hroot hr4;simp only at ha0 ha2 hne hro wR hrt hroot hall;obtain ⟨a,rfl⟩:=Int.eq_ofNat_of_zero_le ha0;rw [show ((a:Int)).toNat=a from rfl] at hrt hroot hall;have ha:a<3:=by omega
  have hl3:k.ah.length=3:=Yy.o.e3;have hce:=Kx.ay.1 HP.o.2.1;simp only at hce;obtain ⟨e,rfl⟩:=Int.eq_ofNat_of_zero_le hce.1;have he:e<3:=by omega
  obtain ⟨bk,ok,qk,uk_,ek,lk,yk,sk,rk⟩:=(HR.o w8 B3.o).e.at (k:=e) (by rw [hl3];exact he);obtain ⟨rfl,rfl,rfl⟩:=Za ek;clear ek;have iek:(e:Int)<(k.ah.length:Int):=by rw [hl3];omega
  obtain ⟨bj,oj,qj_,uj_,ej,lj,yj_,sj,rj⟩:=(HR.o w8 B3.o).e.at (k:=a) (by rw [hl3];exact ha);obtain ⟨⟨rfl,rfl,_⟩,_,rfl⟩:=Zb ej;clear ej;obtain ⟨bo,oo,qo_,uo_,eo,lo,yo,so,ro⟩:=HO.o.rk.e.at (k:=a) (by rw [hr4];exact ha);obtain ⟨rfl,rfl,rfl⟩:=Za eo;clear eo;have hmb:Kx.may (Kx.au k.ah e).aB bg=true:=wR;have iak:(a:Int)<(k.ah.length:Int):=by rw [hl3];omega
  have iao:(a:Int)<(r.1.ah.length:Int):=by rw [hr4];omega
  have haeb:((a:Int) != (e:Int))=true:=by simpa using hne
  have HOr:=af (show Kx.Ok r.1 from nN.1 (by have:=HP.o.2.2.2;rw [HX.o] at this;exact this));obtain ⟨L,hL⟩:=XP (Kx.jm (Kx.au k.ah a).aB bg);have hLr:aS L=true:=by rw [<-hL];exact z_ _ (Yy.o.Lm a ha)
  have hLs:Dw L:=fun s hs=>by
   rw [<-hL] at hs;exact (Hs.o.2 a (by rw [hl3];exact ha)) s (List.mem_filter.1 hs).1
  obtain ⟨F,hF⟩:=XP (Kx.reach k.mem (Kx.au k.ah a).root);have hkr:qx r.1 (a:Int)=F:=by
   unfold qx;rw [nN.2 HOr.o,show Kx.bK (a:Int) 0 2=true from Kx.ay.2 (by omega),<-hF,show ((a:Int)).toNat=a from rfl,hroot,D_];rfl
  have HD:=af (fun W (h:Below w8.heap.size w8 W)=>abl (Kx.au k.ah a).aB bg uj_ W (rj.below h) (Hs.o.2 a (by rw [hl3];exact ha)) (Yy.o.Lm a ha) hro Hnm.o)
  have HK:=af (fun W (h:Below w8.heap.size w8 W)=>uw r.1 (a:Int) _ _ _ _ W (HO.o.below h).rk (jX (nN.2 HOr.o)))
  rw [hL] at HD hrt hall;rw [hkr] at HK;rw [hF] at hall;have HF:=af (show ∀ f ∈ F,f<12/\Kx.may L (Kx.inf k.ag f).guard=true from fun f hf=>⟨by rw [<-hF] at hf;exact (iY.1 hf).2.1,Kx.allowed_at hall hf⟩)
  have HM:=af (fun W (h:Below w8.heap.size w8 W)=>acO (Kx.au k.ah e).aB bg uk_ W (rk.below h) (Hs.o.2 e (by rw [hl3];exact he)) (Yy.o.Lm e he) hro Hnm.o)
  have Hmb:=af hmb;have HQ:=af (fun W (h:Below w8.heap.size w8 W)=>(show dK W uo_ L by have:=ro.below h;rw [hrt] at this;exact this))
  have H11:=af lL;have HLr:=af hLr;have HLs:=af hLs;have VD:=af Hs.o.1;obtain ⟨ap,qp_,ep,_,_⟩:=RS.val HO.o.rk.i;obtain ⟨rfl,rfl,rfl⟩:=Za ep;clear ep
  have IK_:=af (show ∀ W,Below w8.heap.size w8 W->(W.cell? ⟨w1.heap.size,2,none⟩=some (.slice (some ⟨bk,ok,none⟩) k.ah.length m2)/\W.cell? ⟨u1.heap.size,1,none⟩=some (I_ (e:Int))/\W.cell? ⟨u1.heap.size,2,none⟩=some (I_ (a:Int))/\W.cell? ⟨u1.heap.size,5,none⟩=some (.string bg)/\W.cell? ⟨w4.heap.size,0,none⟩=some (.slice b0 q0 z0)/\W.cell? ⟨w4.heap.size,1,none⟩=some (.slice b1 r.1.ag.length z1)/\W.cell? ⟨w4.heap.size,2,none⟩=some (.slice (some ⟨bo,oo,none⟩) r.1.ah.length z2)/\W.cell? ⟨w4.heap.size,3,none⟩=some (.slice b3 q3 z3)/\W.cell? ⟨bk,ok+e*2,none⟩=some uk_/\W.cell? ⟨bk,ok+a*2,none⟩=some uj_/\W.cell? ⟨bo,oo+a*2,none⟩=some uo_) from fun W h=>⟨(XK_.o.below h).cell 2,(XC_.o.below h).cell 1,(XC_.o.below h).cell 2,(XC_.o.below h).cell 5,(XO_.o.below h).cell 0,(XO_.o.below h).cell 1,(XO_.o.below h).cell 2,(XO_.o.below h).cell 3,(h.cell (p:=⟨bk,ok+e*2,none⟩) lk).trans yk,(h.cell (p:=⟨bk,ok+a*2,none⟩) lj).trans yj_,(h.cell (p:=⟨bo,oo+a*2,none⟩) lo).trans yo⟩)
  clear ha0 ha2 hne hro wR D_ lL hrt hroot hr4 hall ha hl3 hce he hmb hL hLr hLs hF hkr yk sk rk lk yj_ sj rj lj yo so ro lo;have p0:=XK_.o.c4;have c0:=XC_.o.c6;go_wp2_with fail;clear p0 c0;have hb8:=Below.refl w8.heap.size w8;have hS0:=IK_.o _ (Below.bz hb8);refine afi IK_ fun hHeld=>?_
  clear hS0;refine afW 0 ?_;refine ac' 8 ?_;refine ahk 9 fun K hK=>?_
  (go_simp;go_at_call 28;refine (HD.o _ (Below.bz hb8)).mono ?_;rintro en w9 ⟨u9,rfl,Rh,hb⟩;have hb9:=hb8.trans ((Below.gG hb).mono hb8.size);clear hb;have hS9:=IK_.o w9 hb9;go_wp2_with fail)
  refine afS hK fun hHeld=>?_
  clear hK K;obtain ⟨a9,c9,e9,_,_⟩:=RS.val Rh.rs;subst e9;have HL:=af Rh.rs;clear Rh;refine ac' 10 ?_;refine wpAnyH_done (by kernel_rfl) ?_ _;have XO9:=af (XO_.o.below hb9);have XC9:=af (XC_.o.below hb9);have c0:=XC9.o.c6;have o0:=XO9.o.c4;go_wp2_with fail;refine (HK.o _ hb9).mono ?_;rintro en w10 ⟨u10,rfl,Ud,hb⟩;obtain ⟨a10,c10,rfl⟩:=Ud.ri.val;rw [aQ];have HRI:=af Ud.ri;replace HL:=af (HL.o.below hb);have ach:=hb9.trans (hb.mono hb9.size);have hFl:F.length<=1099511627776:=by have:=HRI.o.1;rw [aQ] at this;exact this
  clear Ud hb XO9 XC9 c0 o0 HK HD;have HB10:=af ach;go_wp2_with fail;go_loopw [13] (fun i wr=>∃ j:Nat,i=I_ j/\j<=F.length/\TI (Below w10.heap.size w10 wr)) (fun i _=>F.length - (intOf i).toNat)
  case atStart=>exact ⟨0,rfl,Nat.zero_le _,Below.refl _ _⟩
  case round =>
   obtain ⟨j,rfl,hj,hb⟩:=hrel;have hbr:=HB10.o.trans (hb.o.mono HB10.o.size)
   by_cases hlt:j<F.length
   ·have Q5:(j:Int)<(F.length:Int):=by omega
    have Js:=af hlt;obtain ⟨f,hf⟩:=XP (F[j]);obtain ⟨dG,hmf⟩:=HF.o f (by rw [<-hf];exact List.getElem_mem hlt);obtain ⟨bs,os,qs,es,ls,ys⟩:=(HRI.o.below hb.o).at (k:=j) (by rw [aQ];exact hlt);rw [aQ] at es;obtain ⟨rfl,_,rfl⟩:=Za es;clear es;rw [show (fU F)[j]'(by rw [aQ];exact hlt)=(f:Int) from by simp only [fU,List.getElem_map];exact congrArg (fun n:Nat=>(n:Int)) hf] at ys
    have hil:f<r.1.ag.length:=by rw [HOr.o.i12];exact dG
    have ifo:(f:Int)<(r.1.ag.length:Int):=by omega
    obtain ⟨bi,oi,qi_,ei,li,yi,si,ri⟩:=bV.at (HO.o.below hbr).rk.i (k:=f) hil;obtain ⟨rfl,_,rfl⟩:=Za ei;clear ei;have hgo:=Kx.guard_ok HOr.o dG;have hgs:=VD.o _ (ry (show f<k.ag.length by rw [Yy.o.i12];exact dG));rw [H11.o] at si hgo;obtain ⟨gd,hgd⟩:∃ x,(Kx.inf k.ag f).guard=x:=⟨_,rfl⟩;rw [hgd] at si hgo hgs hmf;have HMd:=af (fun W (h:Below wr.heap.size wr W)=>acO L gd (.slice a9 L.length c9) W (HL.o.below (hb.o.trans (h.mono hb.o.size))) HLs.o HLr.o hgo hgs)
    have Hmf:=af hmf;have HBr:=af hbr;have IR_:=af (show ∀ W,Below wr.heap.size wr W->(W.cell? ⟨w4.heap.size,1,none⟩=some (.slice (some ⟨bi,oi,none⟩) r.1.ag.length z1)/\W.cell? ⟨bi,oi+f*3+1,none⟩=some (.string gd)/\W.cell? ⟨bs,os+j,none⟩=some (I_ (f:Int))) from fun W h=>⟨((XO_.o.below HBr.o).below h).cell 1,(h.cell (p:=⟨bi,oi+f*3+1,none⟩) li).trans si,(h.cell (p:=⟨bs,os+j,none⟩) ls).trans ys⟩)
    have HB:=af hb.o;clear hf dG hmf hgo hgs hgd hil yi si ri li ys ls hbr hlt;go_wp2_with fail;have hb8:=Below.refl wr.heap.size wr;have hS0:=IR_.o _ (Below.bz hb8);refine afi IR_ fun hHeld=>?_
    clear hS0;refine afW 0 ?_;refine afU 8 ?_;refine ahk 10 fun K hK=>?_
    (go_simp;go_at_call 19;refine (HMd.o _ (Below.bz hb8)).mono ?_;rintro en w9 ⟨rfl,hb⟩;have hb9:=hb8.trans ((Below.gG hb).mono hb8.size);clear hb;have hS9:=IR_.o w9 hb9;rw [Hmf.o];go_wp2_with fail)
    refine afS hK fun hHeld=>?_
    clear hK K;refine ac' 11 ?_;refine wpAnyH_done (by kernel_rfl) ?_ _;go_wp2_with fail;go_roundw
    case rel=>exact ⟨j+1,by go_num,Js.o,HB.o.trans (hb9.mono HB.o.size)⟩
    case measure=>have:=Js.o;simp [intOf];omega
   obtain rfl:j=F.length:=by omega
   have HLw:=af (HL.o.below hb.o);have ach:=hbr;clear hbr hlt;go_wp2_with fail;have hS0:=IK_.o _ (Below.bz ach);refine afi IK_ fun hHeld=>?_
   clear hS0;refine afW 0 ?_;refine afV 8 ?_;refine afU 12 ?_;refine ac' 14 ?_;refine ahk 15 fun K hK=>?_
   (go_simp;go_at_call 19;refine (HM.o _ (Below.bz ach)).mono ?_;rintro en UR ⟨rfl,hb⟩;replace HLw:=af (HLw.o.below (Below.gG hb));have hb11:=ach.trans ((Below.gG hb).mono ach.size);clear hb;have hS11:=IK_.o UR hb11;rw [Hmb.o];go_wp2_with fail)
   refine afS hK fun hHeld=>?_
   clear hK K;refine afW 16 ?_;refine afU 24 ?_;refine ahk 26 fun K hK=>?_
   (go_simp;go_at_call 30;refine (ace _ _ _ UR (HQ.o _ hb11) HLw.o).mono ?_;rintro en w12 ⟨rfl,hb⟩;have IA:=hb11.trans ((hb).mono hb11.size);clear hb;have hS12:=IK_.o w12 IA;go_wp2_with fail)
   refine afS hK fun hHeld=>?_
   clear hK K;refine afU 27 ?_;refine wpAnyH_done (by kernel_rfl) ?_ _;go_wp2_with fail;go_ret;exact ⟨rfl,Bw.o.trans (IA.mono Bw.o.size)⟩
 have hI0:(1048576:Int)<(len0:Int):=by omega
 clear h0;go_enter func8,ntmps8;go_wp2_with fail;go_ret;exact ⟨rfl,Below.refl _ _⟩
theorem qIn:(Rows.fnRevokeRow.inPlace==Tryz.pinned.checked.prog.inPlace 8)=true:=by kernel_rfl
theorem qUn:(Rows.fnRevokeRow.unfollowed==Tryz.pinned.checked.prog.unfollowed 8)=true:=by kernel_rfl
theorem qRe:(Rows.fnRevokeRow.recurses==Tryz.pinned.checked.prog.recurses 8)=true:=by kernel_rfl
theorem qNa:(Rows.fnRevokeRow.named==Tryz.pinned.checked.prog.varsNamed 8)=true:=by kernel_rfl
end Go.Proofs.YtmmjmckajcfffaaGreatDoor
