/- The law FnTakeRefused: taking needs a right and a frame. (printed by klc.py) -/
import Derived.Test.YtmmjmckajcfffaaGreatDoorKMn
set_option linter.all false
set_option maxHeartbeats 8000000
set_option maxRecDepth 100000
open Go.Proofs.Tryz
open Go.Value renaming slice->A0
namespace Go.Proofs.YtmmjmckajcfffaaGreatDoor
open Go.RowKit Kx
theorem UO {m:List (List Int)} {r:Nat}:∀ f ∈ Kx.tables m r,f<12:=fun f hf=>by unfold Kx.tables at hf;exact (nG.1 hf).1
theorem Tu (m:List (List Int)) (r:Nat):(Kx.tables m r).length<=12:=by unfold Kx.tables fE;exact Nat.le_trans (List.length_filter_le _ _) (by simp)
theorem acO (r:List Kx.Str) (g:Kx.Str) (u:Value) (w:World) (hr:dK w u r) (Zq:Dw r) (hro:aS r=true) (hg:bT g=true) (hgs:g.size<=9223372036854775807) :
  Calls prog 19 #[u,.string g] w fun e w'=>e=.returned (.bool (Kx.may r g))/\Below w.heap.size w w':=by
 have HR:=af hr;have Hsr:=af Zq;have mW:=af hro;have Hg:=af hg;have YI:=af hgs;clear hr Zq hro hg hgs;go_enter func19,ntmps19;go_wp2_with fail;refine (eG r _ _ HR.o Hsr.o).mono ?_;rintro e w3 ⟨rfl,hb⟩;rw [mW.o];have B0:=af hb;clear hb;go_wp2_with fail;refine (oM g _ YI.o).mono ?_;rintro e w4 ⟨rfl,hb⟩;rw [Hg.o];replace B0:=af (B0.o.trans (hb.mono B0.o.size));clear hb;go_wp2_with fail;refine (AP r g _ _ (RS.below HR.o B0.o)).mono ?_;rintro e w5 ⟨rfl,hb⟩;replace B0:=af (B0.o.trans (hb.mono B0.o.size));clear hb;obtain ⟨ans,hans⟩:∃ b,Kx.may r g=b:=⟨_,rfl⟩;rw [hans];have pI:=af hans;clear hans;go_wp2_with fail;go_ret;exact ⟨by rw [pI.o];rfl,B0.o⟩
theorem uw (k:Kx.Kernel) (env:Int) (vm vi ve vc:Value) (w:World) (h:RK w vm vi ve vc k) (hs:iQ k) :
  Calls prog 29 #[.agg #[vm,vi,ve,vc],I_ env] w (mZ w (fU (qx k env))):=by
 obtain ⟨w0,hw0⟩:=XP (w.alloc (.cells #[vm,vi,ve,vc] 28));have B0:=af (show Below w.heap.size w w0 from hw0 ▸ dm);have X0:=af (show BX w0 w.heap.size 28 [vm,vi,ve,vc] from (hw0 ▸ BX.new w _ _:BX w0 _ _ _));have HK:=af (h.below B0.o);obtain ⟨_,ae,ce,rfl,_,_⟩:=h.e.len;have HV:=af (show qx k env=if !az k||!Kx.bK env 0 2 then [] else Kx.reach k.mem (au k.ah env.toNat).root from rfl);have HC:=af (mX k vm vi _ vc w0 HK.o hs);have Hno:=af (show ∀ W,Below w.heap.size w W->qx k env=[]->mZ w (fU (qx k env)) (.returned (A0 none 0 0)) W from fun W hb e=>⟨_,rfl,by rw [e];exact ⟨World.ownsRow_nil _ _ _ _,by decide⟩,hb⟩)
 have k0:=X0.o.c4;clear h hs;go_enter func29,ntmps29;go_wp2_with fail;clear hw0;refine HC.o.mono ?_;rintro e w1 ⟨rfl,hb⟩;replace B0:=af (B0.o.trans (hb.mono B0.o.size));replace X0:=af (X0.o.below hb);replace HK:=af (HK.o.below hb);clear hb HC k0
 cases hv:az k with
 | false =>
  have HF:=af (Hno.o w1 B0.o (by rw [HV.o,hv];rfl));clear hv HV Hno;go_wp2_with fail;go_ret;exact HF.o
 | true =>
  have V1:=af hv;clear hv;go_wp2_with fail;refine (BR _ _).mono ?_;rintro e w' ⟨rfl,rfl⟩
  cases hv:Kx.bK env 0 2 with
  | false =>
   have HF:=af (Hno.o w1 B0.o (by rw [HV.o,hv];simp));clear hv HV Hno;go_wp2_with fail;go_ret;exact HF.o
  | true =>
   obtain ⟨h0,h2⟩:=Kx.ay.1 hv;obtain ⟨a,rfl⟩:=Int.eq_ofNat_of_zero_le h0;obtain ⟨hmo,jI,h12,hco,h3,hro⟩:=aI V1.o;have PX:a<3:=by omega
   have mW:=af (hro a PX);have HF:=af (show qx k a=Kx.reach k.mem (au k.ah a).root by rw [HV.o,V1.o,hv];simp);have Oo:(a:Int)<(k.ah.length:Int):=by omega
   obtain ⟨b,off,cap,u,ev,hbb,_,g2,_⟩:=HK.o.e.at (k:=a) (by omega);obtain ⟨rfl,_,rfl⟩:=Za ev;clear ev;have k0:=X0.o.c4;have HM:=af HK.o.m;have kG:=af hmo;clear hv HV Hno h0 hbb hmo jI h12 hco h3 hro PX;generalize (au k.ah a).root=r at g2 HF mW;go_wp2_with fail;go_still_tail 8,(by kernel_rfl)
   change wpList _ _ _ _ _ w1.drew;have Bd:Below w1.heap.size w1 w1.drew:=Below.bz fZ;obtain ⟨d,hd⟩:=XP w1.drew;rw [hd] at Bd ⊢;replace B0:=af (B0.o.trans (Bd.mono B0.o.size));replace HM:=af (HM.o.below Bd);clear hd Bd k0 g2;go_wp2_with fail;refine (og k.mem r _ _ HM.o kG.o mW.o).mono ?_;rintro e w3 ⟨u3,rfl,ho,hb⟩;rw [<-HF.o] at ho;have Ho:=af (ho.mono B0.o.size);replace B0:=af (B0.o.trans (hb.mono B0.o.size));clear hb ho;go_wp2_with fail;go_ret;exact ⟨_,rfl,Ho.o,B0.o⟩

theorem nmW {B:Nat} {w W:World} (_h:TI (Below B w W)):∃ V,W=V:=⟨_,rfl⟩
theorem onK {W V u v:World} {g h s t:Nat} {l m:List Value} (d:Below W.heap.size W V) (K:TI (BX W g s l)) (C:TI (BX W h t m)) (B:TI (Below u.heap.size u W)) (D:TI (Below v.heap.size v W)):TI (BX V g s l)/\TI (BX V h t m)/\TI (Below u.heap.size u V)/\TI (Below v.heap.size v V):=⟨K.o.below d,C.o.below d,B.o.trans (d.mono B.o.size),D.o.trans (d.mono D.o.size)⟩
theorem onO {W V:World} {g s b:Nat} {l:List Value} {um ui ue uc:Value} {k:Kx.Kernel} (d:Below W.heap.size W V) (K:TI (BX W g s l)) (H:TI (KO W b um ui ue uc k)):TI (BX V g s l)/\TI (KO V b um ui ue uc k):=⟨K.o.below d,H.o.below d⟩
theorem ac' {P:Program} {ops:Array Oper} {Q:Exit->Act->World->Prop} {md:Region.Mode} {S:World->Prop} {o1:Oper} {v1:Value} {fuel:Nat} {listed l1:Array Bool} {a a1:Act} {w:World} (i:Nat) (h:wpAnyH P md ops Q S fuel l1 a1 w) (hS:S w:=by assumption) (h1:Stp P md ops Q S i o1 v1 listed l1 a a1:=by exact stp):wpAnyH P md ops Q S (fuel+1) listed a w:=h1.go hS h
theorem countFree_c (l:List aG) (v:Value) (w:World) (h:bV w v l):Calls prog 55 #[v] w fun e w'=>e=.returned (I_ (oH l:Nat))/\Below w.heap.size w w':=by
 obtain ⟨a,cap,rfl,_,_⟩:=RS.val h;have hl:=h.1;have H:=af (show bV w _ l from h);clear h;go_enter func55,ntmps55;go_wp2_with fail;go_loopw [3,8] (fun n i wr=>∃ k:Nat,i=I_ k/\k<=l.length/\n=I_ (oH (l.take k):Nat)/\TI (Below w.heap.size w wr)) (fun _ i _=>l.length - (intOf i).toNat)
 case atStart=>exact ⟨0,rfl,Nat.zero_le _,rfl,Below.refl _ _⟩
 case round =>
  obtain ⟨k,rfl,hk,rfl,hb⟩:=hrel
  by_cases hlt:k<l.length
  ·have kQ:(k:Int)<(l.length:Int):=by omega
   obtain ⟨b,off,cap',ev,_,g0,g1,g2⟩:=bV.at (RS.below H.o hb.o) hlt;obtain ⟨rfl,_,rfl⟩:=Za ev;clear ev;have hn:oH (l.take (k+1))=oH (l.take k)+if (Kx.inf l k).kind==0 then 1 else 0:=by
    unfold oH;rw [List.take_succ_eq_append_getElem hlt,List.countP_append,List.countP_singleton,show Kx.inf l k=l[k] by simp [Kx.inf,hlt]]
   have hle:oH (l.take k)<=k:=Nat.le_trans List.countP_le_length (List.length_take_le _ _);have Hn:=af hn;clear hn;generalize oH (l.take k)=n at hle Hn;generalize Kx.inf l k=y at g0 g1 g2 Hn;obtain ⟨x,gd,rf⟩:=y;simp only at g0 g1 g2 Hn
   by_cases hx:x=0
   ·subst hx;have HF:=af (show oH (l.take (k+1))=n+1 by rw [Hn.o];simp);clear Hn;go_wp2_with fail;go_roundw
    case rel=>exact ⟨k+1,by go_num,by omega,by rw [HF.o];go_num,hb.o.alloc hb.o.size _⟩
    case measure=>simp [intOf];omega
   have hxb:(x==0)=false:=by simpa using hx
   have HF:=af (show oH (l.take (k+1))=n by rw [Hn.o,hxb];simp);clear Hn hx;go_wp2_with fail;go_roundw
   case rel=>exact ⟨k+1,by go_num,by omega,by rw [HF.o],hb.o.alloc hb.o.size _⟩
   case measure=>simp [intOf];omega
  have hkn:k=l.length:=by omega
  have HF:=af (show oH (l.take k)=oH l by rw [hkn,List.take_length]);clear hkn;go_wp2_with fail;go_ret;exact ⟨aZ (by first | rfl | rw [HF.o]),hb.o⟩
theorem implInfosFree_c (l:List aG) (v:Value) (w:World) (h:bV w v l) (hs:jo l) (hok:bC l=true):Calls prog 24 #[v] w fun e w'=>e=.returned (I_ (oH l:Nat))/\Below w.heap.size w w':=by
 have HV:=af (uY l v w h hs);rw [hok] at HV;have H:=af (fun W (hb:Below w.heap.size w W)=>countFree_c l v W (RS.below h hb))
 clear h hok hs;go_enter func24,ntmps24;go_wp2_with fail;refine HV.o.mono ?_;rintro e w1 ⟨rfl,hb⟩;have B0:=af hb;clear hb;go_wp2_with fail;refine (H.o _ B0.o).mono ?_;rintro e w2 ⟨rfl,hb⟩;replace B0:=af (B0.o.trans (hb.mono B0.o.size));clear hb;go_wp2_with fail;go_ret;exact ⟨rfl,B0.o⟩
theorem freeN_zero {l:List aG}:oH l=0↔Kx.free l=none:=by
 unfold oH Kx.free;rw [List.countP_eq_zero,List.findIdx?_eq_none_iff];simp
theorem RightsMay_no (r:List Kx.Str) (g:Kx.Str) (u:Value) (w:World) (hr:dK w u r) (Zq:Dw r) (hro:aS r=true) (hg:Kx.bT g=false) (hgs:g.size<=9223372036854775807) :
  Calls prog 19 #[u,.string g] w fun e w'=>e=.returned (.bool false)/\Below w.heap.size w w':=by
 have HR:=af hr;have Hsr:=af Zq;have mW:=af hro;have Hg:=af hg;have YI:=af hgs;clear hr Zq hro hg hgs;go_enter func19,ntmps19;go_wp2_with fail;refine (eG r _ _ HR.o Hsr.o).mono ?_;rintro e w3 ⟨rfl,hb⟩;rw [mW.o];have B0:=af hb;clear hb;go_wp2_with fail;refine (oM g _ YI.o).mono ?_;rintro e w4 ⟨rfl,hb⟩;rw [Hg.o];replace B0:=af (B0.o.trans (hb.mono B0.o.size));clear hb;go_wp2_with fail;go_ret;exact ⟨rfl,B0.o⟩
end Go.Proofs.YtmmjmckajcfffaaGreatDoor
namespace Kx
theorem take_code {k:Kernel} {c:Call} (h1:c.kind=1):(cO k c).2.2=(if bT c.name=false then 3 else if jQ k c.env c.name=false then 1 else if free k.ag=none then 4 else 0):=by
 have e2:qm k c=take k c:=by simp [qm,h1]
 have e3:(cO k c).2.2=(qm k c).2.2:=by unfold cO;split <;> rfl
 rw [e3,e2];unfold take
 cases bT c.name <;> cases jQ k c.env c.name <;> cases free k.ag <;> simp
end Kx
namespace Go.Proofs.YtmmjmckajcfffaaGreatDoor
open Go.RowKit Kx

theorem FnTakeRefused_c (a:Option Addr) (len0 cap0:Nat) (zr:List Int) (w:World) (h0:abT .u8 w a len0 cap0 zr) :
  Calls prog 5 #[.slice a len0 cap0] w (aez w):=by
 by_cases hl0:len0<=1048576
 ·have hI0:¬ (1048576:Int)<(len0:Int):=by omega
  have Hr:=af (abT.rb h0);clear h0;go_enter func5,ntmps5;go_wp2_with fail;clear hI0;refine (adi _ _ _ Hr.o).mono ?_;rintro en w1 ⟨k,⟨bQ,JF,ca,cb,cc,bg⟩,_,_,_,_,rfl,hsl,hs,hnm,hcm,hk,hb⟩;obtain ⟨⟨a0,n0,m0,rfl⟩,⟨a1,n1,m1,rfl⟩,⟨a2,n2,m2,rfl⟩,⟨a3,n3,m3,rfl⟩⟩:=hsl;unfold dW;obtain ⟨u1,hu1⟩:∃ V,w1.alloc (.cells #[.slice none 0 0,.slice none 0 0,.slice none 0 0,.slice none 0 0] 28)=V:=⟨_,rfl⟩;obtain ⟨u2,hu2⟩:∃ V,u1.alloc (.cells #[I_ 0,I_ 0,I_ 0,I_ 0,I_ 0,.string ⟨#[]⟩] 30)=V:=⟨_,rfl⟩;have Bu1:Below w1.heap.size w1 u1:=hu1 ▸ dm;have Bu2:Below u1.heap.size u1 u2:=hu2 ▸ dm;have su_:w1.heap.size<u1.heap.size:=by rw [<-hu1];simp
  have YK_:=af (show BX u2 w1.heap.size 28 [.slice none 0 0,.slice none 0 0,.slice none 0 0,.slice none 0 0] from (hu1 ▸ BX.new w1 _ _:BX u1 _ _ _).below Bu2);have YC_:=af (show BX u2 u1.heap.size 30 [I_ 0,I_ 0,I_ 0,I_ 0,I_ 0,.string ⟨#[]⟩] from hu2 ▸ BX.new u1 _ _);have BU_:=af (Bu1.trans (Bu2.mono Bu1.size));have p0:=YK_.o.c4;obtain ⟨q0,q1,q2,q3⟩:=YK_.o.f4;have Y1_:=BX.iq (Nat.ne_of_gt su_) [.slice a0 n0 m0,.slice a1 n1 m1,.slice a2 n2 m2,.slice a3 n3 m3] 0 YC_.o;have Y0_:=YK_.o.sets [.slice a0 n0 m0,.slice a1 n1 m1,.slice a2 n2 m2,.slice a3 n3 m3] rfl;rw [<-afA] at Y0_ Y1_;have Y2:=Y1_.sets [I_ bQ,I_ JF,I_ ca,I_ cb,I_ cc,.string bg] rfl;have Y3_:=BX.iq (Nat.ne_of_lt su_) [I_ bQ,I_ JF,I_ ca,I_ cb,I_ cc,.string bg] 0 Y0_
  have BF:=dP (Nat.le_of_lt su_) [I_ bQ,I_ JF,I_ ca,I_ cb,I_ cc,.string bg] 0 (dP aW [.slice a0 n0 m0,.slice a1 n1 m1,.slice a2 n2 m2,.slice a3 n3 m3] 0 BU_.o);rw [<-afA] at BF;rw [<-afB] at Y2 Y3_ BF;obtain ⟨d0,d1,d2,d3,d4,d5⟩:=Y1_.c6;have f0:=Y1_.frozen 0;have f1:=Y1_.frozen 1;have f2:=Y1_.frozen 2;have f3:=Y1_.frozen 3;have f4:=Y1_.frozen 4;have f5:=Y1_.frozen 5;have e0:=Y3_.c4;have g0:=Y2.c6;have HY2:=af Y2;have HY3:=af Y3_;have HBF:=af BF;clear Y0_ Y1_ Y2 Y3_ BF YK_ YC_ BU_ Bu1 Bu2;go_wp2_with fail;clear hu1 hu2 p0 q0 q1 q2 q3 d0 d1 d2 d3 d4 d5 f0 f1 f2 f3 f4 f5 e0 g0;obtain ⟨w3,hw3⟩:=nmW HBF;rw [hw3] at HY2 HY3 HBF ⊢;have XK_:=HY3;have XC_:=HY2;have TP:=HBF.o;have Bw:=af (hb.trans (TP.mono hb.size));have HR:=af (fun W (h:Below w3.heap.size w3 W)=>(hk.below TP).below h)
  have Hs:=af hs;have HI:=af (fun W (h:Below w3.heap.size w3 W)=>adb k ⟨bQ,JF,ca,cb,cc,bg⟩ _ _ _ _ W (HR.o W h) hs hnm hcm)
  have HS:=af (fun W (h:Below w3.heap.size w3 W)=>ac9 k ⟨bQ,JF,ca,cb,cc,bg⟩ _ _ _ _ W (HR.o W h) hs hnm)
  have Hnm:=af hnm;have Hcm:=af hcm;obtain ⟨r,hr⟩:=XP (QH k ⟨bQ,JF,ca,cb,cc,bg⟩);have HX:=af hr;rw [hr] at HI HS;unfold dW at HI HS;have B3:=af (Below.refl w3.heap.size w3);clear hs hnm hcm hk hb TP Hr hr hw3 HY2 HY3 HBF;refine (HI.o w3 B3.o).mono ?_;rintro en w4 ⟨_,_,_,_,rfl,hko,hb⟩;obtain ⟨⟨b0,q0,z0,rfl⟩,⟨b1,q1,z1,rfl⟩,⟨b2,q2,z2,rfl⟩,⟨b3,q3,z3,rfl⟩⟩:=hko.sl;obtain ⟨XK_,XC_,Bw,B3⟩:=onK hb XK_ XC_ Bw B3;obtain ⟨w5,hw5⟩:∃ V,w4.alloc (.cells #[.slice b0 q0 z0,.slice b1 q1 z1,.slice b2 q2 z2,.slice b3 q3 z3] 28)=V:=⟨_,rfl⟩;have Bw5:Below w4.heap.size w4 w5:=hw5 ▸ dm;have XO_:=af (show BX w5 w4.heap.size 28 [.slice b0 q0 z0,.slice b1 q1 z1,.slice b2 q2 z2,.slice b3 q3 z3] from hw5 ▸ BX.new w4 _ _);have HO:=af (hko.below Bw5);obtain ⟨XK_,XC_,Bw,B3⟩:=onK Bw5 XK_ XC_ Bw B3;clear hko hb Bw5;have p0:=XK_.o.c4;have c0:=XC_.o.c6
  go_wp2_with fail
  try rw [hw5]
  clear hw5 p0;clear c0;refine (HS.o w5 B3.o).mono ?_;rintro en w6 ⟨_,_,_,_,rfl,hko,hb⟩;obtain ⟨⟨d0,x0,y0,rfl⟩,⟨d1,x1,y1,rfl⟩,⟨d2,x2,y2,rfl⟩,⟨d3,x3,y3,rfl⟩⟩:=hko.sl;obtain ⟨XK_,XC_,Bw,B3⟩:=onK hb XK_ XC_ Bw B3;obtain ⟨XO_,HO⟩:=onO hb XO_ HO;obtain ⟨w7,hw7⟩:∃ V,w6.alloc (.cells #[.slice d0 x0 y0,.slice d1 x1 y1,.slice d2 x2 y2,.slice d3 x3 y3] 28)=V:=⟨_,rfl⟩;have Bw7:Below w6.heap.size w6 w7:=hw7 ▸ dm;have XW_:=af (show BX w7 w6.heap.size 28 [.slice d0 x0 y0,.slice d1 x1 y1,.slice d2 x2 y2,.slice d3 x3 y3] from hw7 ▸ BX.new w6 _ _);have HW:=af (hko.below Bw7);obtain ⟨XK_,XC_,Bw,B3⟩:=onK Bw7 XK_ XC_ Bw B3;obtain ⟨XO_,HO⟩:=onO Bw7 XO_ HO;clear hko hb Bw7 HI HS;have o0:=XO_.o.c4;have t0:=XW_.o.c4;go_wp2_with fail
  try rw [hw7]
  clear hw7 o0;clear t0;refine (adE r.1 _ _ _ _ _ _ _ _ _ HO.o.rk HW.o.rk).mono ?_;rintro en w8 ⟨rfl,hb⟩;obtain ⟨XK_,XC_,Bw,B3⟩:=onK hb XK_ XC_ Bw B3;obtain ⟨XO_,HO⟩:=onO hb XO_ HO;obtain ⟨XW_,HW⟩:=onO hb XW_ HW;clear hb
  by_cases h5:r.2.2=5
  ·have h5b:(r.2.2==5)=true:=by simpa using h5
   clear h5;have c0:=XC_.o.c6;have o0:=XO_.o.c4;have t0:=XW_.o.c4;go_wp2_with fail;refine (adE r.1 _ _ _ _ _ _ _ _ _ HO.o.rk HW.o.rk).mono ?_;rintro en w9 ⟨rfl,hb⟩;obtain ⟨XK_,XC_,Bw,B3⟩:=onK hb XK_ XC_ Bw B3;obtain ⟨XO_,HO⟩:=onO hb XO_ HO;obtain ⟨XW_,HW⟩:=onO hb XW_ HW;clear hb o0;clear t0 c0;go_wp2_with fail;go_ret;exact ⟨rfl,Bw.o⟩
  have h5b:(r.2.2==5)=false:=by simpa using h5
  have H5:=af h5;clear h5
  by_cases hk:bQ=1
  case neg =>
   have hkb:(bQ != 1)=true:=by simpa using hk
   clear hk;have c0:=XC_.o.c6;have o0:=XO_.o.c4;have t0:=XW_.o.c4;go_wp2_with fail;refine (adE r.1 _ _ _ _ _ _ _ _ _ HO.o.rk HW.o.rk).mono ?_;rintro en w9 ⟨rfl,hb⟩;obtain ⟨XK_,XC_,Bw,B3⟩:=onK hb XK_ XC_ Bw B3;obtain ⟨XO_,HO⟩:=onO hb XO_ HO;obtain ⟨XW_,HW⟩:=onO hb XW_ HW;clear hb o0;clear t0 c0;go_wp2_with fail;go_ret;exact ⟨rfl,Bw.o⟩
  subst hk;have HP:=af (adQ (k:=k) (c:=⟨1,JF,ca,cb,cc,bg⟩) (by rw [HX.o];exact H5.o));have HC:=af (show Kx.cO k ⟨1,JF,ca,cb,cc,bg⟩=r from HP.o.2.2.1.symm.trans HX.o);have Yy:=af (nN.1 HP.o.1);have hcode:=Kx.take_code (k:=k) (c:=⟨1,JF,ca,cb,cc,bg⟩) rfl;rw [HC.o] at hcode;simp only at hcode;obtain ⟨hm,jI,h12,-⟩:=aI HP.o.1;have hl3:k.ah.length=3:=Yy.o.e3;have hce:=Kx.ay.1 HP.o.2.1;simp only at hce;obtain ⟨e,rfl⟩:=Int.eq_ofNat_of_zero_le hce.1;have he:e<3:=by omega
  obtain ⟨bk,ok,qk,uk_,ek,lk,yk,sk,rk⟩:=(HR.o w8 B3.o).e.at (k:=e) (by rw [hl3];exact he);obtain ⟨rfl,rfl,rfl⟩:=Za ek;clear ek;have iek:(e:Int)<(k.ah.length:Int):=by rw [hl3];omega
  have hme:Kx.jQ k (e:Int) bg=Kx.may (au k.ah e).aB bg:=rfl;rw [hme] at hcode;have HMy:TI (∀ W,Below w8.heap.size w8 W->Calls prog 19 #[uk_,.string bg] W fun en w'=>en=.returned (.bool (Kx.bT bg&&Kx.may (au k.ah e).aB bg))/\Below W.heap.size W w'):=af (fun W h=>by
   cases hro:Kx.bT bg with
   | true=>exact acO (au k.ah e).aB bg uk_ W (rk.below h) (Hs.o.2 e (by rw [hl3];exact he)) (Yy.o.Lm e he) hro Hnm.o
   | false=>exact RightsMay_no (au k.ah e).aB bg uk_ W (rk.below h) (Hs.o.2 e (by rw [hl3];exact he)) (Yy.o.Lm e he) hro Hnm.o)
  obtain ⟨mb,hmb⟩:=XP (Kx.may (au k.ah e).aB bg);rw [hmb] at hcode HMy;obtain ⟨vb,hvb⟩:=XP (Kx.bT bg);rw [hvb] at hcode HMy;have Hvb:=af hvb;have HA:=af (fun W (h:Below w8.heap.size w8 W)=>implInfosFree_c k.ag _ W (HR.o W (B3.o.trans (h.mono B3.o.size))).i Hs.o.1 jI)
  have IK_:=af (show ∀ W,Below w8.heap.size w8 W->(W.cell? ⟨w1.heap.size,1,none⟩=some (.slice a1 n1 m1)/\W.cell? ⟨w1.heap.size,2,none⟩=some (.slice (some ⟨bk,ok,none⟩) k.ah.length m2)/\W.cell? ⟨u1.heap.size,1,none⟩=some (I_ (e:Int))/\W.cell? ⟨u1.heap.size,5,none⟩=some (.string bg)/\W.cell? ⟨bk,ok+e*2,none⟩=some uk_) from fun W h=>⟨(XK_.o.below h).cell 1,(XK_.o.below h).cell 2,(XC_.o.below h).cell 1,(XC_.o.below h).cell 5,(h.cell (p:=⟨bk,ok+e*2,none⟩) lk).trans yk⟩)
  have HD:=af hcode;clear hcode hm jI h12 hl3 hce he hmb hvb hme yk sk rk lk;have c0:=XC_.o.c6;go_wp2_with fail;clear c0;have hb8:=Below.refl w8.heap.size w8;have hS0:=IK_.o _ (Below.bz hb8);refine afi IK_ fun hHeld=>?_
  clear hS0;refine afW 0 ?_;refine ac' 8 ?_;refine ahk 9 fun K hK=>?_
  (go_simp;go_at_call 19;refine (HMy.o _ (Below.bz hb8)).mono ?_;rintro en w9 ⟨rfl,hb⟩;have hb9:=hb8.trans ((Below.gG hb).mono hb8.size);clear hb;have hS9:=IK_.o w9 hb9;go_wp2_with fail)
  refine afS hK fun hHeld=>?_
  clear hK K;refine ac' 10 ?_;refine wpAnyH_done (by kernel_rfl) ?_ _;have XK9:=af (XK_.o.below hb9);have XC9:=af (XC_.o.below hb9);have c0:=XC9.o.c6;go_wp2_with fail;refine (oM bg _ Hnm.o).mono ?_;rintro en w10 ⟨rfl,hb⟩;rw [Hvb.o];have ach:=hb9.trans (hb.mono hb9.size);clear hb c0
  cases vb with
  | false =>
   have h3b:(r.2.2==3)=true:=by rw [HD.o];rfl
   go_wp2_with fail;go_ret;exact ⟨rfl,Bw.o.trans (ach.mono Bw.o.size)⟩
  | true =>
   cases mb with
   | false =>
    have h1b:(r.2.2 != 1)=false:=by rw [HD.o];rfl
    go_wp2_with fail;go_ret;exact ⟨rfl,Bw.o.trans (ach.mono Bw.o.size)⟩
   | true =>
    have XK10:=af (XK_.o.below ach);obtain ⟨n0,hn0⟩:∃ n0:Nat,oH k.ag=n0:=⟨_,rfl⟩;have HA10:=af (HA.o _ ach);rw [hn0] at HA10;have hnz:((n0:Int)==0)=(r.2.2==4)/\(r.2.2 != 1)=true:=by
     rw [HD.o];have h0:=freeN_zero (l:=k.ag);rw [hn0] at h0
     by_cases h:Kx.free k.ag=none
     ·rw [if_pos h,h0.2 h];exact ⟨rfl,rfl⟩
     rw [if_neg h];have:¬ n0=0:=fun e=>h (h0.1 e)
     refine ⟨?_,rfl⟩;simpa using this
    obtain ⟨hnz,h1b⟩:=hnz;clear hn0;have p0:=XK10.o.c4;go_wp2_with fail;refine HA10.o.mono ?_;rintro en UR ⟨rfl,hb⟩;have hb11:=ach.trans (hb.mono ach.size);clear hb p0
    cases UM:(r.2.2==4) with
    | _ =>
     rw [UM] at hnz;go_wp2_with fail;go_ret;exact ⟨rfl,Bw.o.trans (hb11.mono Bw.o.size)⟩
 have hI0:(1048576:Int)<(len0:Int):=by omega
 clear h0;go_enter func5,ntmps5;go_wp2_with fail;go_ret;exact ⟨rfl,Below.refl _ _⟩
theorem qIn:(Rows.fnTakeRefusedRow.inPlace==Tryz.pinned.checked.prog.inPlace 5)=true:=by kernel_rfl
theorem qUn:(Rows.fnTakeRefusedRow.unfollowed==Tryz.pinned.checked.prog.unfollowed 5)=true:=by kernel_rfl
theorem qRe:(Rows.fnTakeRefusedRow.recurses==Tryz.pinned.checked.prog.recurses 5)=true:=by kernel_rfl
theorem qNa:(Rows.fnTakeRefusedRow.named==Tryz.pinned.checked.prog.varsNamed 5)=true:=by kernel_rfl
end Go.Proofs.YtmmjmckajcfffaaGreatDoor
