/- The law FnSetRights: all that can reach a table need the rights. (printed by klc.py) -/
import Derived.Test.YtmmjmckajcfffaaGreatDoorKMn
set_option linter.all false
set_option maxHeartbeats 8000000
set_option maxRecDepth 100000
open Go.Proofs.Tryz
open Go.Value renaming slice->A0
namespace Go.Proofs.YtmmjmckajcfffaaGreatDoor
open Go.RowKit Kx
theorem UO {m:List (List Int)} {r:Nat}:∀ f ∈ Kx.tables m r,f<12:=fun f hf=>by unfold Kx.tables at hf;exact (nG.1 hf).1
theorem Tu (m:List (List Int)) (r:Nat):(Kx.tables m r).length<=12:=by unfold Kx.tables fE;exact Nat.le_trans (List.length_filter_le _ _) (by simp)
theorem acO (r:List Kx.Str) (g:Kx.Str) (u:Value) (w:World) (hr:dK w u r) (Zq:Dw r) (hro:aS r=true) (hg:bT g=true) (hgs:g.size<=9223372036854775807) :
  Calls prog 19 #[u,.string g] w fun e w'=>e=.returned (.bool (Kx.may r g))/\Below w.heap.size w w':=by
 have HR:=af hr;have Hsr:=af Zq;have mW:=af hro;have Hg:=af hg;have YI:=af hgs;clear hr Zq hro hg hgs;go_enter func19,ntmps19;go_wp2_with fail;refine (eG r _ _ HR.o Hsr.o).mono ?_;rintro e w3 ⟨rfl,hb⟩;rw [mW.o];have B0:=af hb;clear hb;go_wp2_with fail;refine (oM g _ YI.o).mono ?_;rintro e w4 ⟨rfl,hb⟩;rw [Hg.o];replace B0:=af (B0.o.trans (hb.mono B0.o.size));clear hb;go_wp2_with fail;refine (AP r g _ _ (RS.below HR.o B0.o)).mono ?_;rintro e w5 ⟨rfl,hb⟩;replace B0:=af (B0.o.trans (hb.mono B0.o.size));clear hb;obtain ⟨ans,hans⟩:∃ b,Kx.may r g=b:=⟨_,rfl⟩;rw [hans];have pI:=af hans;clear hans;go_wp2_with fail;go_ret;exact ⟨by rw [pI.o];rfl,B0.o⟩
theorem uw (k:Kx.Kernel) (env:Int) (vm vi ve vc:Value) (w:World) (h:RK w vm vi ve vc k) (hs:iQ k) :
  Calls prog 29 #[.agg #[vm,vi,ve,vc],I_ env] w (mZ w (fU (qx k env))):=by
 obtain ⟨w0,hw0⟩:=XP (w.alloc (.cells #[vm,vi,ve,vc] 28));have B0:=af (show Below w.heap.size w w0 from hw0 ▸ dm);have X0:=af (show BX w0 w.heap.size 28 [vm,vi,ve,vc] from (hw0 ▸ BX.new w _ _:BX w0 _ _ _));have HK:=af (h.below B0.o);obtain ⟨_,ae,ce,rfl,_,_⟩:=h.e.len;have HV:=af (show qx k env=if !az k||!Kx.bK env 0 2 then [] else Kx.reach k.mem (au k.ah env.toNat).root from rfl);have HC:=af (mX k vm vi _ vc w0 HK.o hs);have Hno:=af (show ∀ W,Below w.heap.size w W->qx k env=[]->mZ w (fU (qx k env)) (.returned (A0 none 0 0)) W from fun W hb e=>⟨_,rfl,by rw [e];exact ⟨World.ownsRow_nil _ _ _ _,by decide⟩,hb⟩)
 have k0:=X0.o.c4;clear h hs;go_enter func29,ntmps29;go_wp2_with fail;clear hw0;refine HC.o.mono ?_;rintro e w1 ⟨rfl,hb⟩;replace B0:=af (B0.o.trans (hb.mono B0.o.size));replace X0:=af (X0.o.below hb);replace HK:=af (HK.o.below hb);clear hb HC k0
 cases hv:az k with
 | false =>
  have HF:=af (Hno.o w1 B0.o (by rw [HV.o,hv];rfl));clear hv HV Hno;go_wp2_with fail;go_ret;exact HF.o
 | true =>
  have V1:=af hv;clear hv;go_wp2_with fail;refine (BR _ _).mono ?_;rintro e w' ⟨rfl,rfl⟩
  cases hv:Kx.bK env 0 2 with
  | false =>
   have HF:=af (Hno.o w1 B0.o (by rw [HV.o,hv];simp));clear hv HV Hno;go_wp2_with fail;go_ret;exact HF.o
  | true =>
   obtain ⟨h0,h2⟩:=Kx.ay.1 hv;obtain ⟨a,rfl⟩:=Int.eq_ofNat_of_zero_le h0;obtain ⟨hmo,jI,h12,hco,h3,hro⟩:=aI V1.o;have PX:a<3:=by omega
   have mW:=af (hro a PX);have HF:=af (show qx k a=Kx.reach k.mem (au k.ah a).root by rw [HV.o,V1.o,hv];simp);have Oo:(a:Int)<(k.ah.length:Int):=by omega
   obtain ⟨b,off,cap,u,ev,hbb,_,g2,_⟩:=HK.o.e.at (k:=a) (by omega);obtain ⟨rfl,_,rfl⟩:=Za ev;clear ev;have k0:=X0.o.c4;have HM:=af HK.o.m;have kG:=af hmo;clear hv HV Hno h0 hbb hmo jI h12 hco h3 hro PX;generalize (au k.ah a).root=r at g2 HF mW;go_wp2_with fail;go_still_tail 8,(by kernel_rfl)
   change wpList _ _ _ _ _ w1.drew;have Bd:Below w1.heap.size w1 w1.drew:=Below.bz fZ;obtain ⟨d,hd⟩:=XP w1.drew;rw [hd] at Bd ⊢;replace B0:=af (B0.o.trans (Bd.mono B0.o.size));replace HM:=af (HM.o.below Bd);clear hd Bd k0 g2;go_wp2_with fail;refine (og k.mem r _ _ HM.o kG.o mW.o).mono ?_;rintro e w3 ⟨u3,rfl,ho,hb⟩;rw [<-HF.o] at ho;have Ho:=af (ho.mono B0.o.size);replace B0:=af (B0.o.trans (hb.mono B0.o.size));clear hb ho;go_wp2_with fail;go_ret;exact ⟨_,rfl,Ho.o,B0.o⟩

theorem nmW {B:Nat} {w W:World} (_h:TI (Below B w W)):∃ V,W=V:=⟨_,rfl⟩
theorem onK {W V u v:World} {g h s t:Nat} {l m:List Value} (d:Below W.heap.size W V) (K:TI (BX W g s l)) (C:TI (BX W h t m)) (B:TI (Below u.heap.size u W)) (D:TI (Below v.heap.size v W)):TI (BX V g s l)/\TI (BX V h t m)/\TI (Below u.heap.size u V)/\TI (Below v.heap.size v V):=⟨K.o.below d,C.o.below d,B.o.trans (d.mono B.o.size),D.o.trans (d.mono D.o.size)⟩
theorem onO {W V:World} {g s b:Nat} {l:List Value} {um ui ue uc:Value} {k:Kx.Kernel} (d:Below W.heap.size W V) (K:TI (BX W g s l)) (H:TI (KO W b um ui ue uc k)):TI (BX V g s l)/\TI (KO V b um ui ue uc k):=⟨K.o.below d,H.o.below d⟩
theorem ac' {P:Program} {ops:Array Oper} {Q:Exit->Act->World->Prop} {md:Region.Mode} {S:World->Prop} {o1:Oper} {v1:Value} {fuel:Nat} {listed l1:Array Bool} {a a1:Act} {w:World} (i:Nat) (h:wpAnyH P md ops Q S fuel l1 a1 w) (hS:S w:=by assumption) (h1:Stp P md ops Q S i o1 v1 listed l1 a a1:=by exact stp):wpAnyH P md ops Q S (fuel+1) listed a w:=h1.go hS h
end Go.Proofs.YtmmjmckajcfffaaGreatDoor
namespace Kx
theorem callK_done {k:Kernel} {c:Call} (h:(cO k c).2.2=0):qm k c=cO k c:=by
 unfold cO at *;split
 ·rename_i h1;rw [if_pos h1] at h;exact absurd h h1
 rfl
theorem set_done {k:Kernel} (hk:Ok k) {c:Call} (h6:c.kind=6) (h:(cO k c).2.2=0) :
  ∃ f:Nat,c.a=f/\f<12/\aX (inf k.ag f).kind=true/\jQ k c.env (inf k.ag f).guard=true/\0<=c.b/\c.b<=3/\(dY c.c==2)=false/\(∀ e ∈ kw k f,allowed k.ag (behind k c.c) (au k.ah e).aB=true)/\lJ k c=false /\
   (cO k c).1.mem=bG k.mem f c.b.toNat c.c/\(∀ x ∈ (cO k c).1.cache,x ∈ k.cache/\∀ u ∈ kw k f,x.env≠(u:Int)):=by
 have e:=callK_done h;rw [<-e] at h ⊢;have e2:qm k c=lQ k c:=by simp [qm,h6]
 rw [e2] at h ⊢;unfold lQ at h ⊢;split at h
 ·rename_i h1;exact absurd h h1
 rename_i h1
 split at h
 ·exact absurd h (by simp)
 rename_i h2
 split at h
 ·exact absurd h (by simp)
 rename_i h3
 split at h
 ·exact absurd h (by simp)
 rename_i h4
 rw [if_neg h1,if_neg h2,if_neg h3,if_neg h4];obtain ⟨a0,a12,_,hm,_,hkd⟩:=fQ (Classical.not_not.1 h1);obtain ⟨f,hf⟩:=Int.eq_ofNat_of_zero_le a0;rw [hf] at a12 hm hkd h3 ⊢;rw [show ((f:Int)).toNat=f from rfl] at a12 hm hkd ⊢;have hsb:bK c.b 0 3=true/\(dY c.c==2)=false:=by
  unfold qJ at h2
  cases hx:bK c.b 0 3 <;> cases hy:(dY c.c==2) <;> rw [hx,hy] at h2 <;> simp_all
 have hb1:=ay.1 hsb.1;refine ⟨f,rfl,a12,hkd rfl,hm,hb1.1,hb1.2,hsb.2,?_,by simpa using h4,rfl,fun x hx=>?_⟩
 ·have:(kw k (f:Int)).all (fun e=>allowed k.ag (behind k c.c) (au k.ah e).aB)=true:=by simpa using h3
  exact fun e he=>List.all_eq_true.1 this e he
 exact (qi _ _).1 hx
theorem users_of_reach {k:Kernel} (hk:Ok k) {f e:Nat} (hf:f<12) (ht:aX (inf k.ag f).kind=true) (he:e<3) (h:f ∈ reach k.mem (au k.ah e).root):e ∈ kw k (f:Int):=by
 rw [wF];refine ⟨by rw [hk.e3];exact he,nX.2 ?_⟩;obtain ⟨hr,_,h1 | h1 | ⟨t,h1,h2⟩⟩:=iY.1 h
 ·left;omega
 ·exact .inr ⟨hr,h1⟩
 have htop:=hk.top he hr;have:=(hk.deep htop.2 htop.1 h1 h2).2.1;rw [dF,this] at ht;omega
theorem set_rights {k:Kernel} (hk:Ok k) {c:Call} (h6:c.kind=6) (h:(cO k c).2.2=0) {f:Nat} {b:Bool} (he:entry c.c=some (f,b)) {e:Nat} (h3:e<3)
  (hu:(e:Int)=c.env\/c.a.toNat ∈ reach k.mem (au k.ah e).root):may (au k.ah e).aB (inf k.ag f).guard=true:=by
 obtain ⟨a,hca,ha,ht,hm,b0,b3,Tv,hall,yU,hmem,hcache⟩:=set_done hk h6 h;rcases hu with hu | hu
 ·unfold lJ at yU;rw [he,<-hu] at yU;unfold jQ at yU;simpa using yU
 rw [hca] at hu;have:=List.all_eq_true.1 (hall e (users_of_reach hk ha ht h3 hu)) f (tK.2 ⟨f,b,he,.inl rfl⟩);exact this
theorem guard_ok {k:Kernel} (hk:Ok k) {f:Nat} (hf:f<12):bT (inf k.ag f).guard=true:=by
 rcases gZ.1 (hk.I8 f hf) with h | h
 ·rw [h];rfl
 exact h.2.2.1
end Kx
namespace Go.Proofs.YtmmjmckajcfffaaGreatDoor
open Go.RowKit Kx

theorem FnSetRights_c (a:Option Addr) (len0 cap0:Nat) (zr:List Int) (w:World) (h0:abT .u8 w a len0 cap0 zr) :
  Calls prog 12 #[.slice a len0 cap0] w (aez w):=by
 by_cases hl0:len0<=1048576
 ·have hI0:¬ (1048576:Int)<(len0:Int):=by omega
  have Hr:=af (abT.rb h0);clear h0;go_enter func12,ntmps12;go_wp2_with fail;clear hI0;refine (adi _ _ _ Hr.o).mono ?_;rintro en w1 ⟨k,⟨bQ,JF,ca,cb,cc,bg⟩,_,_,_,_,rfl,hsl,hs,hnm,hcm,hk,hb⟩;obtain ⟨⟨a0,n0,m0,rfl⟩,⟨a1,n1,m1,rfl⟩,⟨a2,n2,m2,rfl⟩,⟨a3,n3,m3,rfl⟩⟩:=hsl;unfold dW;obtain ⟨u1,hu1⟩:∃ V,w1.alloc (.cells #[.slice none 0 0,.slice none 0 0,.slice none 0 0,.slice none 0 0] 28)=V:=⟨_,rfl⟩;obtain ⟨u2,hu2⟩:∃ V,u1.alloc (.cells #[I_ 0,I_ 0,I_ 0,I_ 0,I_ 0,.string ⟨#[]⟩] 30)=V:=⟨_,rfl⟩;have Bu1:Below w1.heap.size w1 u1:=hu1 ▸ dm;have Bu2:Below u1.heap.size u1 u2:=hu2 ▸ dm;have su_:w1.heap.size<u1.heap.size:=by rw [<-hu1];simp
  have YK_:=af (show BX u2 w1.heap.size 28 [.slice none 0 0,.slice none 0 0,.slice none 0 0,.slice none 0 0] from (hu1 ▸ BX.new w1 _ _:BX u1 _ _ _).below Bu2);have YC_:=af (show BX u2 u1.heap.size 30 [I_ 0,I_ 0,I_ 0,I_ 0,I_ 0,.string ⟨#[]⟩] from hu2 ▸ BX.new u1 _ _);have BU_:=af (Bu1.trans (Bu2.mono Bu1.size));have p0:=YK_.o.c4;obtain ⟨q0,q1,q2,q3⟩:=YK_.o.f4;have Y1_:=BX.iq (Nat.ne_of_gt su_) [.slice a0 n0 m0,.slice a1 n1 m1,.slice a2 n2 m2,.slice a3 n3 m3] 0 YC_.o;have Y0_:=YK_.o.sets [.slice a0 n0 m0,.slice a1 n1 m1,.slice a2 n2 m2,.slice a3 n3 m3] rfl;rw [<-afA] at Y0_ Y1_;have Y2:=Y1_.sets [I_ bQ,I_ JF,I_ ca,I_ cb,I_ cc,.string bg] rfl;have Y3_:=BX.iq (Nat.ne_of_lt su_) [I_ bQ,I_ JF,I_ ca,I_ cb,I_ cc,.string bg] 0 Y0_
  have BF:=dP (Nat.le_of_lt su_) [I_ bQ,I_ JF,I_ ca,I_ cb,I_ cc,.string bg] 0 (dP aW [.slice a0 n0 m0,.slice a1 n1 m1,.slice a2 n2 m2,.slice a3 n3 m3] 0 BU_.o);rw [<-afA] at BF;rw [<-afB] at Y2 Y3_ BF;obtain ⟨d0,d1,d2,d3,d4,d5⟩:=Y1_.c6;have f0:=Y1_.frozen 0;have f1:=Y1_.frozen 1;have f2:=Y1_.frozen 2;have f3:=Y1_.frozen 3;have f4:=Y1_.frozen 4;have f5:=Y1_.frozen 5;have e0:=Y3_.c4;have g0:=Y2.c6;have HY2:=af Y2;have HY3:=af Y3_;have HBF:=af BF;clear Y0_ Y1_ Y2 Y3_ BF YK_ YC_ BU_ Bu1 Bu2;go_wp2_with fail;clear hu1 hu2 p0 q0 q1 q2 q3 d0 d1 d2 d3 d4 d5 f0 f1 f2 f3 f4 f5 e0 g0;obtain ⟨w3,hw3⟩:=nmW HBF;rw [hw3] at HY2 HY3 HBF ⊢;have XK_:=HY3;have XC_:=HY2;have TP:=HBF.o;have Bw:=af (hb.trans (TP.mono hb.size));have HR:=af (fun W (h:Below w3.heap.size w3 W)=>(hk.below TP).below h)
  have Hs:=af hs;have HI:=af (fun W (h:Below w3.heap.size w3 W)=>adb k ⟨bQ,JF,ca,cb,cc,bg⟩ _ _ _ _ W (HR.o W h) hs hnm hcm)
  have HS:=af (fun W (h:Below w3.heap.size w3 W)=>ac9 k ⟨bQ,JF,ca,cb,cc,bg⟩ _ _ _ _ W (HR.o W h) hs hnm)
  have Hnm:=af hnm;have Hcm:=af hcm;obtain ⟨r,hr⟩:=XP (QH k ⟨bQ,JF,ca,cb,cc,bg⟩);have HX:=af hr;rw [hr] at HI HS;unfold dW at HI HS;have B3:=af (Below.refl w3.heap.size w3);clear hs hnm hcm hk hb TP Hr hr hw3 HY2 HY3 HBF;refine (HI.o w3 B3.o).mono ?_;rintro en w4 ⟨_,_,_,_,rfl,hko,hb⟩;obtain ⟨⟨b0,q0,z0,rfl⟩,⟨b1,q1,z1,rfl⟩,⟨b2,q2,z2,rfl⟩,⟨b3,q3,z3,rfl⟩⟩:=hko.sl;obtain ⟨XK_,XC_,Bw,B3⟩:=onK hb XK_ XC_ Bw B3;obtain ⟨w5,hw5⟩:∃ V,w4.alloc (.cells #[.slice b0 q0 z0,.slice b1 q1 z1,.slice b2 q2 z2,.slice b3 q3 z3] 28)=V:=⟨_,rfl⟩;have Bw5:Below w4.heap.size w4 w5:=hw5 ▸ dm;have XO_:=af (show BX w5 w4.heap.size 28 [.slice b0 q0 z0,.slice b1 q1 z1,.slice b2 q2 z2,.slice b3 q3 z3] from hw5 ▸ BX.new w4 _ _);have HO:=af (hko.below Bw5);obtain ⟨XK_,XC_,Bw,B3⟩:=onK Bw5 XK_ XC_ Bw B3;clear hko hb Bw5;have p0:=XK_.o.c4;have c0:=XC_.o.c6
  go_wp2_with fail
  try rw [hw5]
  clear hw5 p0;clear c0;refine (HS.o w5 B3.o).mono ?_;rintro en w6 ⟨_,_,_,_,rfl,hko,hb⟩;obtain ⟨⟨d0,x0,y0,rfl⟩,⟨d1,x1,y1,rfl⟩,⟨d2,x2,y2,rfl⟩,⟨d3,x3,y3,rfl⟩⟩:=hko.sl;obtain ⟨XK_,XC_,Bw,B3⟩:=onK hb XK_ XC_ Bw B3;obtain ⟨XO_,HO⟩:=onO hb XO_ HO;obtain ⟨w7,hw7⟩:∃ V,w6.alloc (.cells #[.slice d0 x0 y0,.slice d1 x1 y1,.slice d2 x2 y2,.slice d3 x3 y3] 28)=V:=⟨_,rfl⟩;have Bw7:Below w6.heap.size w6 w7:=hw7 ▸ dm;have XW_:=af (show BX w7 w6.heap.size 28 [.slice d0 x0 y0,.slice d1 x1 y1,.slice d2 x2 y2,.slice d3 x3 y3] from hw7 ▸ BX.new w6 _ _);have HW:=af (hko.below Bw7);obtain ⟨XK_,XC_,Bw,B3⟩:=onK Bw7 XK_ XC_ Bw B3;obtain ⟨XO_,HO⟩:=onO Bw7 XO_ HO;clear hko hb Bw7 HI HS;have o0:=XO_.o.c4;have t0:=XW_.o.c4;go_wp2_with fail
  try rw [hw7]
  clear hw7 o0;clear t0;refine (adE r.1 _ _ _ _ _ _ _ _ _ HO.o.rk HW.o.rk).mono ?_;rintro en w8 ⟨rfl,hb⟩;obtain ⟨XK_,XC_,Bw,B3⟩:=onK hb XK_ XC_ Bw B3;obtain ⟨XO_,HO⟩:=onO hb XO_ HO;obtain ⟨XW_,HW⟩:=onO hb XW_ HW;clear hb
  by_cases h5:r.2.2=5
  ·have h5b:(r.2.2==5)=true:=by simpa using h5
   clear h5;have c0:=XC_.o.c6;have o0:=XO_.o.c4;have t0:=XW_.o.c4;go_wp2_with fail;refine (adE r.1 _ _ _ _ _ _ _ _ _ HO.o.rk HW.o.rk).mono ?_;rintro en w9 ⟨rfl,hb⟩;obtain ⟨XK_,XC_,Bw,B3⟩:=onK hb XK_ XC_ Bw B3;obtain ⟨XO_,HO⟩:=onO hb XO_ HO;obtain ⟨XW_,HW⟩:=onO hb XW_ HW;clear hb o0;clear t0 c0;go_wp2_with fail;go_ret;exact ⟨rfl,Bw.o⟩
  have h5b:(r.2.2==5)=false:=by simpa using h5
  have H5:=af h5;clear h5
  by_cases hd:r.2.2=0
  case neg =>
   have hdb:(r.2.2 != 0)=true:=by simpa using hd
   clear hd;have c0:=XC_.o.c6;have o0:=XO_.o.c4;have t0:=XW_.o.c4;go_wp2_with fail;refine (adE r.1 _ _ _ _ _ _ _ _ _ HO.o.rk HW.o.rk).mono ?_;rintro en w9 ⟨rfl,hb⟩;obtain ⟨XK_,XC_,Bw,B3⟩:=onK hb XK_ XC_ Bw B3;obtain ⟨XO_,HO⟩:=onO hb XO_ HO;obtain ⟨XW_,HW⟩:=onO hb XW_ HW;clear hb o0;clear t0 c0;go_wp2_with fail;go_ret;exact ⟨rfl,Bw.o⟩
  by_cases hk:bQ=6
  case neg =>
   have hdb:(r.2.2 != 0)=false:=by simpa using hd
   have hkb:(bQ != 6)=true:=by simpa using hk
   clear hd hk;have c0:=XC_.o.c6;have o0:=XO_.o.c4;have t0:=XW_.o.c4;go_wp2_with fail;refine (adE r.1 _ _ _ _ _ _ _ _ _ HO.o.rk HW.o.rk).mono ?_;rintro en w9 ⟨rfl,hb⟩;obtain ⟨XK_,XC_,Bw,B3⟩:=onK hb XK_ XC_ Bw B3;obtain ⟨XO_,HO⟩:=onO hb XO_ HO;obtain ⟨XW_,HW⟩:=onO hb XW_ HW;clear hb o0;clear t0 c0;go_wp2_with fail;go_ret;exact ⟨rfl,Bw.o⟩
  subst hk;have Hd:=af hd;have hdb:(r.2.2 != 0)=false:=by simpa using hd
  clear hd;have HP:=af (adQ (k:=k) (c:=⟨6,JF,ca,cb,cc,bg⟩) (by rw [HX.o];exact H5.o));have HC:=af (show Kx.cO k ⟨6,JF,ca,cb,cc,bg⟩=r from HP.o.2.2.1.symm.trans HX.o);have Yy:=af (nN.1 HP.o.1);have hca':=(Kx.set_done Yy.o (c:=⟨6,JF,ca,cb,cc,bg⟩) rfl (by rw [HC.o];exact Hd.o));obtain ⟨f,hca,hf,-⟩:=hca';simp only at hca;subst hca;have HSR:=af (fun (g:Nat) (d:Bool) (h:Kx.entry cc=some (g,d)) (j:Nat) (h3:j<3)=>Kx.set_rights Yy.o (c:=⟨6,JF,(f:Int),cb,cc,bg⟩) rfl (by rw [HC.o];exact Hd.o) h h3)
  simp only [show ((f:Int)).toNat=f from rfl] at HSR;obtain ⟨hm,jI,h12,-⟩:=aI HP.o.1;have hl3:k.ah.length=3:=Yy.o.e3;have hce:=Kx.ay.1 HP.o.2.1;simp only at hce;obtain ⟨e,rfl⟩:=Int.eq_ofNat_of_zero_le hce.1;have HRm:=af (fun W (h:Below w8.heap.size w8 W)=>HR.o W (B3.o.trans (h.mono B3.o.size)))
  have HK:=af (fun (x:Int) W (h:Below w8.heap.size w8 W)=>uw k x _ _ _ _ W (HRm.o W h) Hs.o)
  have Hl3:=af hl3;have fJ:=af h12;have Hf:=af hf;have HE:=af (bZ cc w8 Hcm.o);obtain ⟨aj,qj_,ej,_,_⟩:=(HR.o w8 B3.o).e.len.2;obtain ⟨rfl,rfl,rfl⟩:=Za ej;clear ej;obtain ⟨ai,qi_,ei,_,_⟩:=RS.val (HR.o w8 B3.o).i;obtain ⟨rfl,rfl,rfl⟩:=Za ei;clear ei hm jI h12 hl3 hce hf;have c0:=XC_.o.c6;go_wp2_with fail;refine HE.o.mono ?_;rintro en w9 ⟨rfl,rfl⟩;clear c0
  cases hen:Kx.entry cc with
  | none =>
   rw [G7 hen];clear hen HSR;go_wp2_with fail;go_loopw [14] (fun i wr=>i=I_ 0/\TI (Below w8.heap.size w8 wr)) (fun _ _=>0)
   case atStart=>exact ⟨rfl,Below.refl _ _⟩
   case round =>
    obtain ⟨rfl,hb⟩:=hrel;go_wp2_with fail;go_ret;exact ⟨rfl,Bw.o.trans (hb.o.mono Bw.o.size)⟩
  | some q =>
   obtain ⟨g,d⟩:=q;have zM:=Kx.dU hen;rw [C_ hen];have HSg:=af (HSR.o g d hen);have hgo:=Kx.guard_ok Yy.o zM;have hgs:=Hs.o.1 _ (ry (show g<k.ag.length by rw [fJ.o];exact zM));obtain ⟨gd,hgd⟩:∃ x,(Kx.inf k.ag g).guard=x:=⟨_,rfl⟩;rw [hgd] at hgo hgs HSg;have Hgo:=af hgo;have YI:=af hgs;have Hgd:=af hgd;have Hg:=af zM;have igk:(g:Int)<(k.ag.length:Int):=by rw [fJ.o];omega
   clear hen HSR hgo hgs hgd zM;go_wp2_with fail;go_loopw [14] (fun i wr=>∃ j:Nat,i=I_ j/\j<=3/\TI (Below w8.heap.size w8 wr)) (fun i _=>3 - (intOf i).toNat)
   case atStart=>exact ⟨0,rfl,Nat.zero_le _,Below.refl _ _⟩
   case round =>
    obtain ⟨j,rfl,hj,hb⟩:=hrel;have HBr:=af hb.o;have HB:=HBr
    by_cases hlt:j<3
    ·have Q5:(j:Int)<3:=by omega
     obtain ⟨bj,oj,_,uj_,ej,lj,yj_,sj,rj⟩:=(HRm.o _ hb.o).e.at (k:=j) (by rw [Hl3.o];exact hlt);obtain ⟨rfl,_,rfl⟩:=Za ej;clear ej;obtain ⟨bi,oi,_,ei,li,yi,si,ri⟩:=bV.at (HRm.o _ hb.o).i (k:=g) (by rw [fJ.o];exact Hg.o);obtain ⟨rfl,_,rfl⟩:=Za ei;clear ei;rw [Hgd.o] at si;have ijk:(j:Int)<(k.ah.length:Int):=by rw [Hl3.o];omega
     have HMq:=af (fun W (h:Below wr.heap.size wr W)=>acO (Kx.au k.ah j).aB gd uj_ W (rj.below h) (Hs.o.2 j (by rw [Hl3.o];exact hlt)) (Yy.o.Lm j hlt) Hgo.o YI.o)
     obtain ⟨mj,hmj⟩:∃ m,Kx.may (Kx.au k.ah j).aB gd=m:=⟨_,rfl⟩;have hsj:=HSg.o j hlt;have HM:=HMq;rw [hmj] at HM hsj;have hkr:qx k (j:Int)=Kx.reach k.mem (Kx.au k.ah j).root:=by
      unfold qx;rw [nN.2 Yy.o,show Kx.bK (j:Int) 0 2=true from Kx.ay.2 (by omega)];rfl
     rw [<-hkr] at hsj;obtain ⟨hi,hhi⟩:∃ x,decide ((f:Int) ∈ fU (qx k (j:Int)))=x:=⟨_,rfl⟩;have hsj2:hi=true->mj=true:=fun h=>hsj (.inr (by
      rw [h] at hhi;obtain ⟨n,hn,hnf⟩:=Gy.1 (of_decide_eq_true hhi);obtain rfl:n=f:=by omega
      exact hn))
     have hsj1:((j:Int)==(e:Int))=true->mj=true:=fun h=>hsj (.inl (by simpa using h))
     have jR:=af hhi;have IK_:=af (show ∀ W,Below wr.heap.size wr W->(W.cell? ⟨w1.heap.size,0,none⟩=some (.slice a0 n0 m0)/\W.cell? ⟨w1.heap.size,1,none⟩=some (.slice (some ⟨bi,oi,none⟩) k.ag.length m1)/\W.cell? ⟨w1.heap.size,2,none⟩=some (.slice (some ⟨bj,oj,none⟩) k.ah.length m2)/\W.cell? ⟨w1.heap.size,3,none⟩=some (.slice a3 n3 m3)/\W.cell? ⟨u1.heap.size,1,none⟩=some (I_ (e:Int))/\W.cell? ⟨u1.heap.size,2,none⟩=some (I_ (f:Int))/\W.cell? ⟨bj,oj+j*2,none⟩=some uj_/\W.cell? ⟨bi,oi+g*3+1,none⟩=some (.string gd)) from fun W h=>⟨((XK_.o.below HBr.o).below h).cell 0,((XK_.o.below HBr.o).below h).cell 1,((XK_.o.below HBr.o).below h).cell 2,((XK_.o.below HBr.o).below h).cell 3,((XC_.o.below HBr.o).below h).cell 1,((XC_.o.below HBr.o).below h).cell 2,(h.cell (p:=⟨bj,oj+j*2,none⟩) lj).trans yj_,(h.cell (p:=⟨bi,oi+g*3+1,none⟩) li).trans si⟩)
     have hb8:=Below.refl wr.heap.size wr;clear HMq hmj hsj hkr hhi yj_ sj rj yi si ri lj li
     cases hje:((j:Int)==(e:Int)) with
     | true =>
      obtain rfl:=hsj1 hje;clear hsj1 hsj2;go_wp2_with fail;have hS0:=IK_.o _ (Below.bz hb8);refine afi IK_ fun hHeld=>?_
      clear hS0;refine afW 0 ?_;refine afW 8 ?_;refine afW 16 ?_;refine ac' 24 ?_;refine ahk 25 fun K hK=>?_
      (go_simp;go_at_call 19;refine (HM.o _ (Below.bz hb8)).mono ?_;rintro en w9 ⟨rfl,hb⟩;have hb9:=hb8.trans ((Below.gG hb).mono hb8.size);clear hb;have hS9:=IK_.o w9 hb9;go_wp2_with fail)
      refine afS hK fun hHeld=>?_
      clear hK K;refine afU 26 ?_;refine wpAnyH_done (by kernel_rfl) ?_ _;go_wp2_with fail;go_roundw
      case rel=>exact ⟨j+1,by go_num,by omega,HB.o.trans (hb9.mono HB.o.size)⟩
      case measure=>simp [intOf];omega
     | false =>
      clear hsj1;go_wp2_with fail;have hS0:=IK_.o _ (Below.bz hb8);refine afi IK_ fun hHeld=>?_
      clear hS0;refine afV 0 ?_;refine afU 4 ?_;refine ac' 6 ?_;refine afU 8 ?_;refine ahk 7 fun K hK=>?_
      (go_simp;go_at_call 29;refine (HK.o (j:Int) _ (HBr.o.trans ((Below.bz hb8).mono HBr.o.size))).mono ?_;rintro en w19 ⟨u7,rfl,Y1,hb⟩;have hb9:=hb8.trans ((Below.gG hb).mono hb8.size);clear hb;have hS9:=IK_.o w19 hb9;have HI:=af Y1.ri;clear Y1;go_wp2_with fail)
      refine afS hK fun hHeld=>?_
      clear hK K;refine ahk 10 fun K hK=>?_
      (go_simp;go_at_call 33;refine (Jy _ _ _ w19 HI.o).mono ?_;rintro en w20 ⟨rfl,rfl⟩;rw [jR.o];go_wp2_with fail)
      refine afS hK fun hHeld=>?_
      clear hK K
      cases hi with
      | true =>
       obtain rfl:=hsj2 rfl;clear hsj2;refine afW 11 ?_;refine afV 19 ?_;refine afU 23 ?_;refine ahk 25 fun K hK=>?_
       (go_simp;go_at_call 19;refine (HM.o _ hb9).mono ?_;rintro en w21 ⟨rfl,hb⟩;have ach:=hb9.trans ((hb).mono hb9.size);clear hb;have hS10:=IK_.o w21 ach;go_wp2_with fail)
       refine afS hK fun hHeld=>?_
       clear hK K;refine afU 26 ?_;refine wpAnyH_done (by kernel_rfl) ?_ _;go_wp2_with fail;go_roundw
       case rel=>exact ⟨j+1,by go_num,by omega,HB.o.trans (ach.mono HB.o.size)⟩
       case measure=>simp [intOf];omega
      | false =>
       clear hsj2;refine afW 11 ?_;refine afW 19 ?_;refine ac' 27 ?_;refine wpAnyH_done (by kernel_rfl) ?_ _;go_wp2_with fail;go_roundw
       case rel=>exact ⟨j+1,by go_num,by omega,HB.o.trans (hb9.mono HB.o.size)⟩
       case measure=>simp [intOf];omega
    obtain rfl:j=3:=by omega
    go_wp2_with fail;go_ret;exact ⟨rfl,Bw.o.trans (hb.o.mono Bw.o.size)⟩
 have hI0:(1048576:Int)<(len0:Int):=by omega
 clear h0;go_enter func12,ntmps12;go_wp2_with fail;go_ret;exact ⟨rfl,Below.refl _ _⟩
theorem qIn:(Rows.fnSetRightsRow.inPlace==Tryz.pinned.checked.prog.inPlace 12)=true:=by kernel_rfl
theorem qUn:(Rows.fnSetRightsRow.unfollowed==Tryz.pinned.checked.prog.unfollowed 12)=true:=by kernel_rfl
theorem qRe:(Rows.fnSetRightsRow.recurses==Tryz.pinned.checked.prog.recurses 12)=true:=by kernel_rfl
theorem qNa:(Rows.fnSetRightsRow.named==Tryz.pinned.checked.prog.varsNamed 12)=true:=by kernel_rfl
end Go.Proofs.YtmmjmckajcfffaaGreatDoor
