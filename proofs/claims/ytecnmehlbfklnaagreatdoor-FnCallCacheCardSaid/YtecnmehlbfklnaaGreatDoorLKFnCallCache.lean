/- The law FnCallCache: the cache has no influence. (printed by klc.py) -/
import Derived.Test.YtecnmehlbfklnaaGreatDoorKMn
import Derived.Test.YtecnmehlbfklnaaGreatDoorKJh
set_option linter.all false
set_option maxHeartbeats 8000000
set_option maxRecDepth 100000
open Go.Proofs.Tryz
namespace Go.Proofs.YtecnmehlbfklnaaGreatDoor
open Go.RowKit Kx

theorem nmW {B:Nat} {w W:World} (_h:TI (Below B w W)):∃ V,W=V:=⟨_,rfl⟩
theorem onK {W V u v:World} {g h s t:Nat} {l m:List Value} (d:Below W.heap.size W V) (K:TI (BX W g s l)) (C:TI (BX W h t m)) (B:TI (Below u.heap.size u W)) (D:TI (Below v.heap.size v W)):TI (BX V g s l)/\TI (BX V h t m)/\TI (Below u.heap.size u V)/\TI (Below v.heap.size v V):=⟨K.o.below d,C.o.below d,B.o.trans (d.mono B.o.size),D.o.trans (d.mono D.o.size)⟩
theorem onO {W V:World} {g s b:Nat} {l:List Value} {um ui ue uc:Value} {k:Kx.Kernel} (d:Below W.heap.size W V) (K:TI (BX W g s l)) (H:TI (KO W b um ui ue uc k)):TI (BX V g s l)/\TI (KO V b um ui ue uc k):=⟨K.o.below d,H.o.below d⟩
end Go.Proofs.YtecnmehlbfklnaaGreatDoor
namespace Kx
def noCache (k:Kernel):Kernel:=⟨k.mem,k.ag,k.ah,[]⟩
def Sm_ (a b:Out):Prop:=a.1.mem=b.1.mem/\a.1.ag=b.1.ag/\a.1.ah=b.1.ah/\a.2=b.2
theorem noCache_ok {k:Kernel} (h:Ok k):Ok (noCache k):=
 ⟨h.m12,h.m4,h.mw,h.i12,h.I8,rfl,h.e3,h.Lm,h.root,h.all,h.tab,h.refs,fun x hx=>by cases hx⟩
theorem take_cache {k:Kernel} {c:Call}:Sm_ (take (noCache k) c) (take k c):=by
 unfold take jQ noCache Sm_;dsimp only;split
 ·exact ⟨rfl,rfl,rfl,rfl⟩
 split
 ·exact ⟨rfl,rfl,rfl,rfl⟩
 cases free k.ag <;> exact ⟨rfl,rfl,rfl,rfl⟩
theorem give_cache {k:Kernel} {c:Call}:Sm_ (give (noCache k) c) (give k c):=by
 unfold give Sm_;rw [show aO (noCache k) c 1=aO k c 1 from rfl,show (noCache k).ag=k.ag from rfl];split
 ·exact ⟨rfl,rfl,rfl,rfl⟩
 split <;> exact ⟨rfl,rfl,rfl,rfl⟩
theorem poke_cache {k:Kernel} {c:Call}:Sm_ (oP (noCache k) c) (oP k c):=by
 unfold oP Sm_;rw [show aO (noCache k) c 1=aO k c 1 from rfl];split
 ·exact ⟨rfl,rfl,rfl,rfl⟩
 split <;> exact ⟨rfl,rfl,rfl,rfl⟩
theorem pin_cache {k:Kernel} {c:Call}:Sm_ (lu (noCache k) c) (lu k c):=by
 unfold lu Sm_;rw [show pinned (noCache k) c=pinned k c from rfl,show (noCache k).ag=k.ag from rfl,show jQ (noCache k) c.env (inf k.ag c.a.toNat).guard=jQ k c.env (inf k.ag c.a.toNat).guard from rfl];split
 ·exact ⟨rfl,rfl,rfl,rfl⟩
 split
 ·exact ⟨rfl,rfl,rfl,rfl⟩
 split
 ·exact ⟨rfl,rfl,rfl,rfl⟩
 split <;> exact ⟨rfl,rfl,rfl,rfl⟩
theorem set_cache {k:Kernel} {c:Call}:Sm_ (lQ (noCache k) c) (lQ k c):=by
 unfold lQ Sm_;rw [show aO (noCache k) c 0=aO k c 0 from rfl,show qJ (noCache k) c=qJ k c from rfl,show lJ (noCache k) c=lJ k c from rfl,show kw (noCache k) c.a=kw k c.a from rfl,
  show behind (noCache k) c.c=behind k c.c from rfl,show (noCache k).ag=k.ag from rfl,show (noCache k).ah=k.ah from rfl,show (noCache k).mem=k.mem from rfl]
 split
 ·exact ⟨rfl,rfl,rfl,rfl⟩
 split
 ·exact ⟨rfl,rfl,rfl,rfl⟩
 split
 ·exact ⟨rfl,rfl,rfl,rfl⟩
 split <;> exact ⟨rfl,rfl,rfl,rfl⟩
theorem root_cache {k:Kernel} {c:Call}:Sm_ (mM (noCache k) c) (mM k c):=by
 unfold mM Sm_;rw [show (noCache k).ag=k.ag from rfl,show (noCache k).ah=k.ah from rfl,show (noCache k).mem=k.mem from rfl];split
 ·exact ⟨rfl,rfl,rfl,rfl⟩
 split <;> exact ⟨rfl,rfl,rfl,rfl⟩
theorem rights_cache {k:Kernel} {c:Call}:Sm_ (f_ (noCache k) c) (f_ k c):=by
 unfold f_ Sm_;rw [show (noCache k).ag=k.ag from rfl,show (noCache k).ah=k.ah from rfl,show (noCache k).mem=k.mem from rfl,show jQ (noCache k) c.env c.name=jQ k c.env c.name from rfl];split
 ·exact ⟨rfl,rfl,rfl,rfl⟩
 split
 ·exact ⟨rfl,rfl,rfl,rfl⟩
 split
 ·split <;> exact ⟨rfl,rfl,rfl,rfl⟩
 split <;> exact ⟨rfl,rfl,rfl,rfl⟩
theorem access_cache {k:Kernel} (h:Ok k) {c:Call}:Sm_ (access (noCache k) c) (access k c):=by
 unfold access Sm_;rw [show (noCache k).ah=k.ah from rfl,show (noCache k).mem=k.mem from rfl]
 by_cases hb:(!bK c.a 0 63||decide ((au k.ah c.env.toNat).root<0)||(c.kind==11&&!bK c.b 0 9999))=true
 ·rw [if_pos hb,if_pos hb];exact ⟨rfl,rfl,rfl,rfl⟩
 rw [if_neg hb,if_neg hb];have ha:bK c.a 0 63=true:=by
  cases hx:bK c.a 0 63 with
  | true=>rfl
  | false=>rw [hx] at hb;exact absurd rfl hb
 have hp:=h.place (env:=c.env) ha;have h0:placeOf (noCache k) c.env c.a=(((walk k.mem (au k.ah c.env.toNat).root.toNat c.a.toNat).1.1,(walk k.mem (au k.ah c.env.toNat).root.toNat c.a.toNat).1.2.2),(walk k.mem (au k.ah c.env.toNat).root.toNat c.a.toNat).2):=rfl;rw [h0,<-hp.1];generalize placeOf k c.env c.a=P at hp ⊢;obtain ⟨pl,code⟩:=P;simp only at hp ⊢
 by_cases hc:code=0
 ·subst hc;obtain rfl:=hp.2 rfl;simp only [ne_eq,not_true,if_false];split
  ·exact ⟨rfl,rfl,rfl,rfl⟩
  split <;> exact ⟨rfl,rfl,rfl,rfl⟩
 rw [if_pos hc,if_pos hc];exact ⟨rfl,rfl,rfl,rfl⟩
theorem callK_cache {k:Kernel} (h:Ok k) {c:Call}:Sm_ (cO (noCache k) c) (cO k c):=by
 have hd:Sm_ (qm (noCache k) c) (qm k c):=by
  unfold qm
  by_cases h1:c.kind=1
  ·rw [if_pos h1,if_pos h1];exact take_cache
  rw [if_neg h1,if_neg h1]
  by_cases h2:c.kind=2
  ·rw [if_pos h2,if_pos h2];exact give_cache
  rw [if_neg h2,if_neg h2]
  by_cases h3:c.kind=3
  ·rw [if_pos h3,if_pos h3];exact poke_cache
  rw [if_neg h3,if_neg h3]
  by_cases h4:c.kind=4\/c.kind=5
  ·rw [if_pos h4,if_pos h4];exact pin_cache
  rw [if_neg h4,if_neg h4]
  by_cases h6:c.kind=6
  ·rw [if_pos h6,if_pos h6];exact set_cache
  rw [if_neg h6,if_neg h6]
  by_cases h7:c.kind=7
  ·rw [if_pos h7,if_pos h7];exact root_cache
  rw [if_neg h7,if_neg h7]
  by_cases h8:c.kind=8\/c.kind=9
  ·rw [if_pos h8,if_pos h8];exact rights_cache
  rw [if_neg h8,if_neg h8]
  by_cases h10:c.kind=10\/c.kind=11
  ·rw [if_pos h10,if_pos h10];exact access_cache h
  rw [if_neg h10,if_neg h10];exact ⟨rfl,rfl,rfl,rfl⟩
 unfold cO;rw [show (qm (noCache k) c).2.2=(qm k c).2.2 by rw [hd.2.2.2]];split
 ·exact ⟨rfl,rfl,rfl,rfl⟩
 exact hd
theorem kernelCall_cache {k:Kernel} (h:az k=true) {c:Call}:Sm_ (QH (noCache k) c) (QH k c):=by
 unfold QH;rw [h,nN.2 (noCache_ok (nN.1 h))];split
 ·exact ⟨rfl,rfl,rfl,rfl⟩
 exact callK_cache (nN.1 h)
end Kx
namespace Go.Proofs.YtecnmehlbfklnaaGreatDoor
open Go.RowKit Kx

theorem rcached_nil (w:World) (g:Nat):dZ w (.slice (some ⟨g,0,none⟩) 0 0) []:=⟨by simp,.inl ⟨rfl,_,_,rfl,by decide,by simp⟩⟩
theorem FnCallCache_c (a:Option Addr) (len0 cap0:Nat) (zr:List Int) (w:World) (h0:abT .u8 w a len0 cap0 zr) :
  Calls prog 4 #[.slice a len0 cap0] w (aez w):=by
 by_cases hl0:len0<=1048576
 ·have hI0:¬ (1048576:Int)<(len0:Int):=by omega
  have Hr:=af (abT.rb h0);clear h0;go_enter func4,ntmps4;go_wp2_with fail;clear hI0;refine (adi _ _ _ Hr.o).mono ?_;rintro en w1 ⟨k,⟨bQ,JF,ca,cb,cc,bg⟩,_,_,_,_,rfl,hsl,hs,hnm,hcm,hk,hb⟩;obtain ⟨⟨a0,n0,m0,rfl⟩,⟨a1,n1,m1,rfl⟩,⟨a2,n2,m2,rfl⟩,⟨a3,n3,m3,rfl⟩⟩:=hsl;unfold dW;obtain ⟨u1,hu1⟩:∃ V,w1.alloc (.cells #[.slice none 0 0,.slice none 0 0,.slice none 0 0,.slice none 0 0] 28)=V:=⟨_,rfl⟩;obtain ⟨u2,hu2⟩:∃ V,u1.alloc (.cells #[I_ 0,I_ 0,I_ 0,I_ 0,I_ 0,.string ⟨#[]⟩] 30)=V:=⟨_,rfl⟩;have Bu1:Below w1.heap.size w1 u1:=hu1 ▸ dm;have Bu2:Below u1.heap.size u1 u2:=hu2 ▸ dm;have su_:w1.heap.size<u1.heap.size:=by rw [<-hu1];simp
  have YK_:=af (show BX u2 w1.heap.size 28 [.slice none 0 0,.slice none 0 0,.slice none 0 0,.slice none 0 0] from (hu1 ▸ BX.new w1 _ _:BX u1 _ _ _).below Bu2);have YC_:=af (show BX u2 u1.heap.size 30 [I_ 0,I_ 0,I_ 0,I_ 0,I_ 0,.string ⟨#[]⟩] from hu2 ▸ BX.new u1 _ _);have BU_:=af (Bu1.trans (Bu2.mono Bu1.size));have p0:=YK_.o.c4;obtain ⟨q0,q1,q2,q3⟩:=YK_.o.f4;have Y1_:=BX.iq (Nat.ne_of_gt su_) [.slice a0 n0 m0,.slice a1 n1 m1,.slice a2 n2 m2,.slice a3 n3 m3] 0 YC_.o;have Y0_:=YK_.o.sets [.slice a0 n0 m0,.slice a1 n1 m1,.slice a2 n2 m2,.slice a3 n3 m3] rfl;rw [<-afA] at Y0_ Y1_;have Y2:=Y1_.sets [I_ bQ,I_ JF,I_ ca,I_ cb,I_ cc,.string bg] rfl;have Y3_:=BX.iq (Nat.ne_of_lt su_) [I_ bQ,I_ JF,I_ ca,I_ cb,I_ cc,.string bg] 0 Y0_
  have BF:=dP (Nat.le_of_lt su_) [I_ bQ,I_ JF,I_ ca,I_ cb,I_ cc,.string bg] 0 (dP aW [.slice a0 n0 m0,.slice a1 n1 m1,.slice a2 n2 m2,.slice a3 n3 m3] 0 BU_.o);rw [<-afA] at BF;rw [<-afB] at Y2 Y3_ BF;obtain ⟨d0,d1,d2,d3,d4,d5⟩:=Y1_.c6;have f0:=Y1_.frozen 0;have f1:=Y1_.frozen 1;have f2:=Y1_.frozen 2;have f3:=Y1_.frozen 3;have f4:=Y1_.frozen 4;have f5:=Y1_.frozen 5;obtain ⟨e0,e1,e2,e3⟩:=Y3_.c4;have g0:=Y2.c6;have HY2:=af Y2;have HY3:=af Y3_;have HBF:=af BF;clear Y0_ Y1_ Y2 Y3_ BF YK_ YC_ BU_ Bu1 Bu2;go_wp2_with fail;clear hu1 hu2 p0 q0 q1 q2 q3 d0 d1 d2 d3 d4 d5 f0 f1 f2 f3 f4 f5 e0 e1 e2 e3 g0;obtain ⟨w3,hw3⟩:=nmW HBF;rw [hw3] at HY2 HY3 HBF ⊢;have XK_:=HY3;have XC_:=HY2;have TP:=HBF.o;have Bw:=af (hb.trans (TP.mono hb.size));have HR:=af (fun W (h:Below w3.heap.size w3 W)=>(hk.below TP).below h)
  have Hs:=af hs;have HI:=af (fun W (h:Below w3.heap.size w3 W)=>adb k ⟨bQ,JF,ca,cb,cc,bg⟩ _ _ _ _ W (HR.o W h) hs hnm hcm)
  have HS:=af (fun W (h:Below w3.heap.size w3 W)=>ac9 k ⟨bQ,JF,ca,cb,cc,bg⟩ _ _ _ _ W (HR.o W h) hs hnm)
  have Hnm:=af hnm;have Hcm:=af hcm;obtain ⟨r,hr⟩:=XP (Kx.QH k ⟨bQ,JF,ca,cb,cc,bg⟩);have HX:=af hr;rw [hr] at HI HS;unfold dW at HI HS;have B3:=af (Below.refl w3.heap.size w3);clear hs hnm hcm hk hb TP Hr hr hw3 HY2 HY3 HBF;refine (HI.o w3 B3.o).mono ?_;rintro en w4 ⟨_,_,_,_,rfl,hko,hb⟩;obtain ⟨⟨b0,q0,z0,rfl⟩,⟨b1,q1,z1,rfl⟩,⟨b2,q2,z2,rfl⟩,⟨b3,q3,z3,rfl⟩⟩:=hko.sl;obtain ⟨XK_,XC_,Bw,B3⟩:=onK hb XK_ XC_ Bw B3;obtain ⟨w5,hw5⟩:∃ V,w4.alloc (.cells #[.slice b0 q0 z0,.slice b1 q1 z1,.slice b2 q2 z2,.slice b3 q3 z3] 28)=V:=⟨_,rfl⟩;have Bw5:Below w4.heap.size w4 w5:=hw5 ▸ dm;have XO_:=af (show BX w5 w4.heap.size 28 [.slice b0 q0 z0,.slice b1 q1 z1,.slice b2 q2 z2,.slice b3 q3 z3] from hw5 ▸ BX.new w4 _ _);have HO:=af (hko.below Bw5);obtain ⟨XK_,XC_,Bw,B3⟩:=onK Bw5 XK_ XC_ Bw B3;clear hko hb Bw5;have p0:=XK_.o.c4;have c0:=XC_.o.c6
  go_wp2_with fail
  try rw [hw5]
  clear hw5 p0;clear c0;refine (HS.o w5 B3.o).mono ?_;rintro en w6 ⟨_,_,_,_,rfl,hko,hb⟩;obtain ⟨⟨d0,x0,y0,rfl⟩,⟨d1,x1,y1,rfl⟩,⟨d2,x2,y2,rfl⟩,⟨d3,x3,y3,rfl⟩⟩:=hko.sl;obtain ⟨XK_,XC_,Bw,B3⟩:=onK hb XK_ XC_ Bw B3;obtain ⟨XO_,HO⟩:=onO hb XO_ HO;obtain ⟨w7,hw7⟩:∃ V,w6.alloc (.cells #[.slice d0 x0 y0,.slice d1 x1 y1,.slice d2 x2 y2,.slice d3 x3 y3] 28)=V:=⟨_,rfl⟩;have Bw7:Below w6.heap.size w6 w7:=hw7 ▸ dm;have XW_:=af (show BX w7 w6.heap.size 28 [.slice d0 x0 y0,.slice d1 x1 y1,.slice d2 x2 y2,.slice d3 x3 y3] from hw7 ▸ BX.new w6 _ _);have HW:=af (hko.below Bw7);obtain ⟨XK_,XC_,Bw,B3⟩:=onK Bw7 XK_ XC_ Bw B3;obtain ⟨XO_,HO⟩:=onO Bw7 XO_ HO;clear hko hb Bw7 HI HS;have o0:=XO_.o.c4;have t0:=XW_.o.c4;go_wp2_with fail
  try rw [hw7]
  clear hw7 o0;clear t0;refine (adE r.1 _ _ _ _ _ _ _ _ _ HO.o.rk HW.o.rk).mono ?_;rintro en w8 ⟨rfl,hb⟩;obtain ⟨XK_,XC_,Bw,B3⟩:=onK hb XK_ XC_ Bw B3;obtain ⟨XO_,HO⟩:=onO hb XO_ HO;obtain ⟨XW_,HW⟩:=onO hb XW_ HW;clear hb
  by_cases h5:r.2.2=5
  ·have h5b:(r.2.2==5)=true:=by simpa using h5
   clear h5;have c0:=XC_.o.c6;have o0:=XO_.o.c4;have t0:=XW_.o.c4;go_wp2_with fail;refine (adE r.1 _ _ _ _ _ _ _ _ _ HO.o.rk HW.o.rk).mono ?_;rintro en w9 ⟨rfl,hb⟩;obtain ⟨XK_,XC_,Bw,B3⟩:=onK hb XK_ XC_ Bw B3;obtain ⟨XO_,HO⟩:=onO hb XO_ HO;obtain ⟨XW_,HW⟩:=onO hb XW_ HW;clear hb o0;clear t0 c0;go_wp2_with fail;go_ret;exact ⟨rfl,Bw.o⟩
  have h5b:(r.2.2==5)=false:=by simpa using h5
  have H5:=af h5;clear h5;have HP:=af (adQ (k:=k) (c:=⟨bQ,JF,ca,cb,cc,bg⟩) (by rw [HX.o];exact H5.o));have HC:=af (show Kx.cO k ⟨bQ,JF,ca,cb,cc,bg⟩=r from HP.o.2.2.1.symm.trans HX.o);have Yy:=af (Kx.nN.1 HP.o.1);have HSm:=af (show Kx.Sm_ (Kx.QH (Kx.noCache k) ⟨bQ,JF,ca,cb,cc,bg⟩) r from by rw [<-HX.o];exact Kx.kernelCall_cache HP.o.1);obtain ⟨w9,JX⟩:∃ V,w8.alloc (.cells #[.slice a0 n0 m0,.slice a1 n1 m1,.slice a2 n2 m2,.slice a3 n3 m3] 28)=V:=⟨_,rfl⟩;have B9:Below w8.heap.size w8 w9:=JX ▸ dm;obtain ⟨w10,hw10⟩:∃ V,w9.alloc (.cells #[] 51)=V:=⟨_,rfl⟩;have B10:Below w9.heap.size w9 w10:=hw10 ▸ dm;have s9:w8.heap.size<w9.heap.size:=by rw [<-JX];simp
  have X9:=af (show BX w9 w8.heap.size 28 [.slice a0 n0 m0,.slice a1 n1 m1,.slice a2 n2 m2,.slice a3 n3 m3] from JX ▸ BX.new w8 _ _);have DN:=af (X9.o.below B10);have B810:=af (B9.trans (B10.mono B9.size));have X11:=af (show BX (w10.setCell ⟨w8.heap.size,3,none⟩ (.slice (some ⟨w9.heap.size,0,none⟩) 0 0)) w8.heap.size 28 [.slice a0 n0 m0,.slice a1 n1 m1,.slice a2 n2 m2,.slice (some ⟨w9.heap.size,0,none⟩) 0 0] from DN.o.set 3 _);have C11:=af (show BX (w10.setCell ⟨w8.heap.size,3,none⟩ (.slice (some ⟨w9.heap.size,0,none⟩) 0 0)) u1.heap.size 30 [I_ bQ,I_ JF,I_ ca,I_ cb,I_ cc,.string bg] from (XC_.o.below B810.o).other (Nat.ne_of_lt XC_.o.lt) 3 _);have p0:=XK_.o.c4;obtain ⟨x0,x1,x2,x3⟩:=DN.o.c4;have f3:=DN.o.frozen 3;obtain ⟨y0,y1,y2,y3⟩:=X11.o.c4;have c0:=C11.o.c6
  have B811:=af (B810.o.setCell (p:=⟨w8.heap.size,3,none⟩) aW (.slice (some ⟨w9.heap.size,0,none⟩) 0 0));go_wp2_with fail;obtain ⟨UR,hw11⟩:∃ V,w10.setCell ⟨w8.heap.size,3,none⟩ (.slice (some ⟨w9.heap.size,0,none⟩) 0 0)=V:=⟨_,rfl⟩;rw [hw11] at X11 C11 B811 ⊢;clear p0 x0 x1 x2 x3 f3 y0 y1 y2 y3 c0 JX hw10 hw11 B9 B10 s9 X9 DN B810;obtain ⟨XK_,XC_,Bw,B3⟩:=onK B811.o XK_ XC_ Bw B3;obtain ⟨XO_,HO⟩:=onO B811.o XO_ HO;obtain ⟨XW_,HW⟩:=onO B811.o XW_ HW;have HRk:=af (show RK UR _ _ _ _ (Kx.noCache k) from ⟨(HR.o UR B3.o).m,(HR.o UR B3.o).i,(HR.o UR B3.o).e,rcached_nil UR w9.heap.size⟩);have HI2:=af (adb (Kx.noCache k) ⟨bQ,JF,ca,cb,cc,bg⟩ _ _ _ _ UR HRk.o Hs.o Hnm.o Hcm.o);obtain ⟨r2,hr2⟩:=XP (Kx.QH (Kx.noCache k) ⟨bQ,JF,ca,cb,cc,bg⟩);rw [hr2] at HI2 HSm;unfold dW at HI2
  have hq:(r2.2.2==r.2.2)=true:=by rw [HSm.o.2.2.2];simp
  have hv:(r2.2.1==r.2.1)=true:=by rw [HSm.o.2.2.2];simp
  clear hr2;refine HI2.o.mono ?_;rintro en w12 ⟨_,_,_,_,rfl,hko,hb⟩;obtain ⟨⟨e0,i0,j0,rfl⟩,⟨e1,i1,j1,rfl⟩,⟨e2,i2,j2,rfl⟩,⟨e3,i3,j3,rfl⟩⟩:=hko.sl;obtain ⟨XK_,XC_,Bw,B3⟩:=onK hb XK_ XC_ Bw B3;obtain ⟨XO_,HO⟩:=onO hb XO_ HO;obtain ⟨XW_,HW⟩:=onO hb XW_ HW;obtain ⟨YN,Ny⟩:∃ V,w12.alloc (.cells #[.slice e0 i0 j0,.slice e1 i1 j1,.slice e2 i2 j2,.slice e3 i3 j3] 28)=V:=⟨_,rfl⟩;have Bw13:Below w12.heap.size w12 YN:=Ny ▸ dm;have XY_:=af (show BX YN w12.heap.size 28 [.slice e0 i0 j0,.slice e1 i1 j1,.slice e2 i2 j2,.slice e3 i3 j3] from Ny ▸ BX.new w12 _ _);have HY_:=af (hko.below Bw13);obtain ⟨XK_,XC_,Bw,B3⟩:=onK Bw13 XK_ XC_ Bw B3;obtain ⟨XO_,HO⟩:=onO Bw13 XO_ HO;obtain ⟨XW_,HW⟩:=onO Bw13 XW_ HW;clear hko hb Bw13 HI2 HRk X11 C11 B811;obtain ⟨y0,y1,y2,y3⟩:=XY_.o.c4;have o0:=XO_.o.c4;go_wp2_with fail
  try rw [Ny]
  clear Ny;refine (ab4 r.1.mem _ _ YN (by have:=HY_.o.rk.m;rw [HSm.o.1] at this;exact this) HO.o.rk.m).mono ?_;rintro en w14 ⟨rfl,hb⟩;replace XY_:=af (XY_.o.below hb);replace HY_:=af (HY_.o.below hb);obtain ⟨XK_,XC_,Bw,B3⟩:=onK hb XK_ XC_ Bw B3;obtain ⟨XO_,HO⟩:=onO hb XO_ HO;obtain ⟨XW_,HW⟩:=onO hb XW_ HW;clear hb o0 y0 y1 y2 y3;obtain ⟨y0,y1,y2,y3⟩:=XY_.o.c4;have o0:=XO_.o.c4;go_wp2_with fail;refine (acg r.1.ag _ _ w14 (by have:=HY_.o.rk.i;rw [HSm.o.2.1] at this;exact this) HO.o.rk.i).mono ?_;rintro en w15 ⟨rfl,hb⟩;replace XY_:=af (XY_.o.below hb);replace HY_:=af (HY_.o.below hb);obtain ⟨XK_,XC_,Bw,B3⟩:=onK hb XK_ XC_ Bw B3;obtain ⟨XO_,HO⟩:=onO hb XO_ HO;obtain ⟨XW_,HW⟩:=onO hb XW_ HW;clear hb o0 y0 y1 y2 y3;obtain ⟨y0,y1,y2,y3⟩:=XY_.o.c4;have o0:=XO_.o.c4;go_wp2_with fail
  refine (acG r.1.ah _ _ w15 (by have:=HY_.o.rk.e;rw [HSm.o.2.2.1] at this;exact this) HO.o.rk.e).mono ?_;rintro en w16 ⟨rfl,hb⟩;obtain ⟨XK_,XC_,Bw,B3⟩:=onK hb XK_ XC_ Bw B3;obtain ⟨XO_,HO⟩:=onO hb XO_ HO;obtain ⟨XW_,HW⟩:=onO hb XW_ HW;clear hb o0 y0 y1 y2 y3;go_wp2_with fail;go_ret;exact ⟨rfl,Bw.o⟩
 have hI0:(1048576:Int)<(len0:Int):=by omega
 clear h0;go_enter func4,ntmps4;go_wp2_with fail;go_ret;exact ⟨rfl,Below.refl _ _⟩
end Go.Proofs.YtecnmehlbfklnaaGreatDoor
