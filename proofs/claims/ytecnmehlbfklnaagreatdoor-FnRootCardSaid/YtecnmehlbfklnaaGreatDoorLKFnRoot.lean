/- The law FnRoot: an environment chooses its table. (printed by klc.py) -/
import Derived.Test.YtecnmehlbfklnaaGreatDoorKMn
import Derived.Test.YtecnmehlbfklnaaGreatDoorKJh
set_option linter.all false
set_option maxHeartbeats 8000000
set_option maxRecDepth 100000
open Go.Proofs.Tryz
namespace Go.Proofs.YtecnmehlbfklnaaGreatDoor
open Go.RowKit Kx

theorem nmW {B:Nat} {w W:World} (_h:TI (Below B w W)):∃ V,W=V:=⟨_,rfl⟩
theorem onK {W V u v:World} {g h s t:Nat} {l m:List Value} (d:Below W.heap.size W V) (K:TI (BX W g s l)) (C:TI (BX W h t m)) (B:TI (Below u.heap.size u W)) (D:TI (Below v.heap.size v W)):TI (BX V g s l)/\TI (BX V h t m)/\TI (Below u.heap.size u V)/\TI (Below v.heap.size v V):=⟨K.o.below d,C.o.below d,B.o.trans (d.mono B.o.size),D.o.trans (d.mono D.o.size)⟩
theorem onO {W V:World} {g s b:Nat} {l:List Value} {um ui ue uc:Value} {k:Kx.Kernel} (d:Below W.heap.size W V) (K:TI (BX W g s l)) (H:TI (KO W b um ui ue uc k)):TI (BX V g s l)/\TI (KO V b um ui ue uc k):=⟨K.o.below d,H.o.below d⟩
theorem uRun1 {P:Program} {ops:Array Oper} {Q:Exit->Act->World->Prop} {md:Region.Mode} {S:World->Prop} {o1:Oper} {v1:Value} {fuel:Nat} {listed l1:Array Bool} {a a1:Act} {w:World} (i:Nat) (h:wpAnyH P md ops Q S fuel l1 a1 w) (hS:S w:=by assumption) (h1:Stp P md ops Q S i o1 v1 listed l1 a a1:=by exact stp):wpAnyH P md ops Q S (fuel+1) listed a w:=h1.go hS h
end Go.Proofs.YtecnmehlbfklnaaGreatDoor
namespace Kx
theorem callK_done {k:Kernel} {c:Call} (h:(cO k c).2.2=0):qm k c=cO k c:=by
 unfold cO at *;split
 ·rename_i h1;rw [if_pos h1] at h;exact absurd h h1
 rfl
theorem root_done {k:Kernel} (hk:Ok k) {c:Call} (he:bK c.env 0 2=true) (h7:c.kind=7) (h:(cO k c).2.2=0) :
  (cO k c).1.mem=k.mem/\(au (cO k c).1.ah c.env.toNat).root=c.a/\(au (cO k c).1.ah c.env.toNat).aB=(au k.ah c.env.toNat).aB/\(cO k c).1.ah.length=3/\∀ x ∈ (cO k c).1.cache,x.env≠c.env:=by
 have e:=callK_done h;rw [<-e] at h ⊢;have e2:qm k c=mM k c:=by simp [qm,h7]
 rw [e2] at h ⊢;rw [ay] at he;have hl:c.env.toNat<k.ah.length:=by rw [hk.e3];omega
 unfold mM at h ⊢;split at h
 ·exact absurd h (by simp)
 split at h
 ·exact absurd h (by simp)
 rename_i h1 h2
 rw [if_neg h1,if_neg h2];refine ⟨rfl,?_,?_,?_,fun x hx=>?_⟩
 ·show (au (dE k.ah c.env.toNat c.a) c.env.toNat).root=c.a
  unfold dE;rw [mr hl,if_pos rfl]
 ·show (au (dE k.ah c.env.toNat c.a) c.env.toNat).aB=_
  unfold dE;rw [mr hl,if_pos rfl]
 ·show (dE k.ah c.env.toNat c.a).length=3
  unfold dE;rw [List.length_set,hk.e3]
 have:x ∈ fP k.cache c.env:=hx
 unfold fP at this;simp at this;exact this.2
end Kx
namespace Go.Proofs.YtecnmehlbfklnaaGreatDoor
open Go.RowKit Kx

theorem FnRoot_c (a:Option Addr) (len0 cap0:Nat) (zr:List Int) (w:World) (h0:abT .u8 w a len0 cap0 zr) :
  Calls prog 10 #[.slice a len0 cap0] w (aez w):=by
 by_cases hl0:len0<=1048576
 ·have hI0:¬ (1048576:Int)<(len0:Int):=by omega
  have Hr:=af (abT.rb h0);clear h0;go_enter func10,ntmps10;go_wp2_with fail;clear hI0;refine (adi _ _ _ Hr.o).mono ?_;rintro en w1 ⟨k,⟨bQ,JF,ca,cb,cc,bg⟩,_,_,_,_,rfl,hsl,hs,hnm,hcm,hk,hb⟩;obtain ⟨⟨a0,n0,m0,rfl⟩,⟨a1,n1,m1,rfl⟩,⟨a2,n2,m2,rfl⟩,⟨a3,n3,m3,rfl⟩⟩:=hsl;unfold dW;obtain ⟨u1,hu1⟩:∃ V,w1.alloc (.cells #[.slice none 0 0,.slice none 0 0,.slice none 0 0,.slice none 0 0] 28)=V:=⟨_,rfl⟩;obtain ⟨u2,hu2⟩:∃ V,u1.alloc (.cells #[I_ 0,I_ 0,I_ 0,I_ 0,I_ 0,.string ⟨#[]⟩] 30)=V:=⟨_,rfl⟩;have Bu1:Below w1.heap.size w1 u1:=hu1 ▸ dm;have Bu2:Below u1.heap.size u1 u2:=hu2 ▸ dm;have su_:w1.heap.size<u1.heap.size:=by rw [<-hu1];simp
  have YK_:=af (show BX u2 w1.heap.size 28 [.slice none 0 0,.slice none 0 0,.slice none 0 0,.slice none 0 0] from (hu1 ▸ BX.new w1 _ _:BX u1 _ _ _).below Bu2);have YC_:=af (show BX u2 u1.heap.size 30 [I_ 0,I_ 0,I_ 0,I_ 0,I_ 0,.string ⟨#[]⟩] from hu2 ▸ BX.new u1 _ _);have BU_:=af (Bu1.trans (Bu2.mono Bu1.size));have p0:=YK_.o.c4;obtain ⟨q0,q1,q2,q3⟩:=YK_.o.f4;have Y1_:=BX.iq (Nat.ne_of_gt su_) [.slice a0 n0 m0,.slice a1 n1 m1,.slice a2 n2 m2,.slice a3 n3 m3] 0 YC_.o;have Y0_:=YK_.o.sets [.slice a0 n0 m0,.slice a1 n1 m1,.slice a2 n2 m2,.slice a3 n3 m3] rfl;rw [<-afA] at Y0_ Y1_;have Y2:=Y1_.sets [I_ bQ,I_ JF,I_ ca,I_ cb,I_ cc,.string bg] rfl;have Y3_:=BX.iq (Nat.ne_of_lt su_) [I_ bQ,I_ JF,I_ ca,I_ cb,I_ cc,.string bg] 0 Y0_
  have BF:=dP (Nat.le_of_lt su_) [I_ bQ,I_ JF,I_ ca,I_ cb,I_ cc,.string bg] 0 (dP aW [.slice a0 n0 m0,.slice a1 n1 m1,.slice a2 n2 m2,.slice a3 n3 m3] 0 BU_.o);rw [<-afA] at BF;rw [<-afB] at Y2 Y3_ BF;obtain ⟨d0,d1,d2,d3,d4,d5⟩:=Y1_.c6;have f0:=Y1_.frozen 0;have f1:=Y1_.frozen 1;have f2:=Y1_.frozen 2;have f3:=Y1_.frozen 3;have f4:=Y1_.frozen 4;have f5:=Y1_.frozen 5;have e0:=Y3_.c4;obtain ⟨g0,g1,g2,g3,g4,g5⟩:=Y2.c6;have HY2:=af Y2;have HY3:=af Y3_;have HBF:=af BF;clear Y0_ Y1_ Y2 Y3_ BF YK_ YC_ BU_ Bu1 Bu2;go_wp2_with fail;clear hu1 hu2 p0 q0 q1 q2 q3 d0 d1 d2 d3 d4 d5 f0 f1 f2 f3 f4 f5 e0 g0 g1 g2 g3 g4 g5;obtain ⟨w3,hw3⟩:=nmW HBF;rw [hw3] at HY2 HY3 HBF ⊢;have XK_:=HY3;have XC_:=HY2;have TP:=HBF.o;have Bw:=af (hb.trans (TP.mono hb.size));have HR:=af (fun W (h:Below w3.heap.size w3 W)=>(hk.below TP).below h)
  have Hs:=af hs;have HI:=af (fun W (h:Below w3.heap.size w3 W)=>adb k ⟨bQ,JF,ca,cb,cc,bg⟩ _ _ _ _ W (HR.o W h) hs hnm hcm)
  have HS:=af (fun W (h:Below w3.heap.size w3 W)=>ac9 k ⟨bQ,JF,ca,cb,cc,bg⟩ _ _ _ _ W (HR.o W h) hs hnm)
  have Hnm:=af hnm;have Hcm:=af hcm;obtain ⟨r,hr⟩:=XP (QH k ⟨bQ,JF,ca,cb,cc,bg⟩);have HX:=af hr;rw [hr] at HI HS;unfold dW at HI HS;have B3:=af (Below.refl w3.heap.size w3);clear hs hnm hcm hk hb TP Hr hr hw3 HY2 HY3 HBF;refine (HI.o w3 B3.o).mono ?_;rintro en w4 ⟨_,_,_,_,rfl,hko,hb⟩;obtain ⟨⟨b0,q0,z0,rfl⟩,⟨b1,q1,z1,rfl⟩,⟨b2,q2,z2,rfl⟩,⟨b3,q3,z3,rfl⟩⟩:=hko.sl;obtain ⟨XK_,XC_,Bw,B3⟩:=onK hb XK_ XC_ Bw B3;obtain ⟨w5,hw5⟩:∃ V,w4.alloc (.cells #[.slice b0 q0 z0,.slice b1 q1 z1,.slice b2 q2 z2,.slice b3 q3 z3] 28)=V:=⟨_,rfl⟩;have Bw5:Below w4.heap.size w4 w5:=hw5 ▸ dm;have XO_:=af (show BX w5 w4.heap.size 28 [.slice b0 q0 z0,.slice b1 q1 z1,.slice b2 q2 z2,.slice b3 q3 z3] from hw5 ▸ BX.new w4 _ _);have HO:=af (hko.below Bw5);obtain ⟨XK_,XC_,Bw,B3⟩:=onK Bw5 XK_ XC_ Bw B3;clear hko hb Bw5;have p0:=XK_.o.c4;obtain ⟨c0,c1,c2,c3,c4,c5⟩:=XC_.o.c6
  go_wp2_with fail
  try rw [hw5]
  clear hw5 p0;clear c0 c1 c2 c3 c4 c5;refine (HS.o w5 B3.o).mono ?_;rintro en w6 ⟨_,_,_,_,rfl,hko,hb⟩;obtain ⟨⟨d0,x0,y0,rfl⟩,⟨d1,x1,y1,rfl⟩,⟨d2,x2,y2,rfl⟩,⟨d3,x3,y3,rfl⟩⟩:=hko.sl;obtain ⟨XK_,XC_,Bw,B3⟩:=onK hb XK_ XC_ Bw B3;obtain ⟨XO_,HO⟩:=onO hb XO_ HO;obtain ⟨w7,hw7⟩:∃ V,w6.alloc (.cells #[.slice d0 x0 y0,.slice d1 x1 y1,.slice d2 x2 y2,.slice d3 x3 y3] 28)=V:=⟨_,rfl⟩;have Bw7:Below w6.heap.size w6 w7:=hw7 ▸ dm;have XW_:=af (show BX w7 w6.heap.size 28 [.slice d0 x0 y0,.slice d1 x1 y1,.slice d2 x2 y2,.slice d3 x3 y3] from hw7 ▸ BX.new w6 _ _);have HW:=af (hko.below Bw7);obtain ⟨XK_,XC_,Bw,B3⟩:=onK Bw7 XK_ XC_ Bw B3;obtain ⟨XO_,HO⟩:=onO Bw7 XO_ HO;clear hko hb Bw7 HI HS;obtain ⟨o0,o1,o2,o3⟩:=XO_.o.c4;have t0:=XW_.o.c4;go_wp2_with fail
  try rw [hw7]
  clear hw7 o0 o1 o2 o3;clear t0;refine (adE r.1 _ _ _ _ _ _ _ _ _ HO.o.rk HW.o.rk).mono ?_;rintro en w8 ⟨rfl,hb⟩;obtain ⟨XK_,XC_,Bw,B3⟩:=onK hb XK_ XC_ Bw B3;obtain ⟨XO_,HO⟩:=onO hb XO_ HO;obtain ⟨XW_,HW⟩:=onO hb XW_ HW;clear hb
  by_cases h5:r.2.2=5
  ·have h5b:(r.2.2==5)=true:=by simpa using h5
   clear h5;obtain ⟨c0,c1,c2,c3,c4,c5⟩:=XC_.o.c6;obtain ⟨o0,o1,o2,o3⟩:=XO_.o.c4;have t0:=XW_.o.c4;go_wp2_with fail;refine (adE r.1 _ _ _ _ _ _ _ _ _ HO.o.rk HW.o.rk).mono ?_;rintro en w9 ⟨rfl,hb⟩;obtain ⟨XK_,XC_,Bw,B3⟩:=onK hb XK_ XC_ Bw B3;obtain ⟨XO_,HO⟩:=onO hb XO_ HO;obtain ⟨XW_,HW⟩:=onO hb XW_ HW;clear hb o0 o1 o2 o3;clear t0 c0 c1 c2 c3 c4 c5;go_wp2_with fail;go_ret;exact ⟨rfl,Bw.o⟩
  have h5b:(r.2.2==5)=false:=by simpa using h5
  have H5:=af h5;clear h5
  by_cases hd:r.2.2=0
  case neg =>
   have hdb:(r.2.2 != 0)=true:=by simpa using hd
   clear hd;obtain ⟨c0,c1,c2,c3,c4,c5⟩:=XC_.o.c6;obtain ⟨o0,o1,o2,o3⟩:=XO_.o.c4;have t0:=XW_.o.c4;go_wp2_with fail;refine (adE r.1 _ _ _ _ _ _ _ _ _ HO.o.rk HW.o.rk).mono ?_;rintro en w9 ⟨rfl,hb⟩;obtain ⟨XK_,XC_,Bw,B3⟩:=onK hb XK_ XC_ Bw B3;obtain ⟨XO_,HO⟩:=onO hb XO_ HO;obtain ⟨XW_,HW⟩:=onO hb XW_ HW;clear hb o0 o1 o2 o3;clear t0 c0 c1 c2 c3 c4 c5;go_wp2_with fail;go_ret;exact ⟨rfl,Bw.o⟩
  by_cases hk:bQ=7
  case neg =>
   have hdb:(r.2.2 != 0)=false:=by simpa using hd
   have hkb:(bQ != 7)=true:=by simpa using hk
   clear hd hk;obtain ⟨c0,c1,c2,c3,c4,c5⟩:=XC_.o.c6;obtain ⟨o0,o1,o2,o3⟩:=XO_.o.c4;have t0:=XW_.o.c4;go_wp2_with fail;refine (adE r.1 _ _ _ _ _ _ _ _ _ HO.o.rk HW.o.rk).mono ?_;rintro en w9 ⟨rfl,hb⟩;obtain ⟨XK_,XC_,Bw,B3⟩:=onK hb XK_ XC_ Bw B3;obtain ⟨XO_,HO⟩:=onO hb XO_ HO;obtain ⟨XW_,HW⟩:=onO hb XW_ HW;clear hb o0 o1 o2 o3;clear t0 c0 c1 c2 c3 c4 c5;go_wp2_with fail;go_ret;exact ⟨rfl,Bw.o⟩
  subst hk;have Hd:=af hd;have hdb:(r.2.2 != 0)=false:=by simpa using hd
  clear hd;have HP:=af (adQ (k:=k) (c:=⟨7,JF,ca,cb,cc,bg⟩) (by rw [HX.o];exact H5.o));have HC:=af (show Kx.cO k ⟨7,JF,ca,cb,cc,bg⟩=r from HP.o.2.2.1.symm.trans HX.o);have Yy:=af (nN.1 HP.o.1);obtain ⟨hr1,hr2,hr3,hr4,hr5⟩:=Kx.root_done Yy.o (c:=⟨7,JF,ca,cb,cc,bg⟩) HP.o.2.1 rfl (by rw [HC.o];exact Hd.o);rw [HC.o] at hr1 hr2 hr3 hr4 hr5;simp only at hr2 hr3 hr5;have hce:=Kx.ay.1 HP.o.2.1;simp only at hce;obtain ⟨e,rfl⟩:=Int.eq_ofNat_of_zero_le hce.1;rw [show ((e:Int)).toNat=e from rfl] at hr2 hr3;have he:e<3:=by omega
  have hl3:k.ah.length=3:=Yy.o.e3;obtain ⟨ah_,zh_,ec,_,_⟩:=RS.val HO.o.rk.c;obtain ⟨rfl,rfl,rfl⟩:=Za ec;clear ec;obtain ⟨bj,oj,qj_,uj_,ej,lj,yj_,sj,rj⟩:=(HR.o w8 B3.o).e.at (k:=e) (by rw [hl3];exact he);obtain ⟨rfl,rfl,rfl⟩:=Za ej;clear ej;obtain ⟨bo,oo,qo_,uo_,eo,lo,yo,so,ro⟩:=HO.o.rk.e.at (k:=e) (by rw [hr4];exact he);obtain ⟨rfl,rfl,rfl⟩:=Za eo;clear eo;have iek:(e:Int)<(k.ah.length:Int):=by rw [hl3];omega
  have ieo:(e:Int)<(r.1.ah.length:Int):=by rw [hr4];omega
  rw [hr2] at so
  have IK_:=af (show ∀ W,Below w8.heap.size w8 W->(W.cell? ⟨w1.heap.size,0,none⟩=some (.slice a0 n0 m0)/\W.cell? ⟨w1.heap.size,2,none⟩=some (.slice (some ⟨bj,oj,none⟩) k.ah.length m2)/\W.cell? ⟨u1.heap.size,1,none⟩=some (I_ (e:Int))/\W.cell? ⟨u1.heap.size,2,none⟩=some (I_ ca)/\W.cell? ⟨w4.heap.size,0,none⟩=some (.slice b0 q0 z0)/\W.cell? ⟨w4.heap.size,2,none⟩=some (.slice (some ⟨bo,oo,none⟩) r.1.ah.length z2)/\W.cell? ⟨w4.heap.size,3,none⟩=some (.slice b3 r.1.cache.length z3)/\W.cell? ⟨bj,oj+e*2,none⟩=some uj_/\W.cell? ⟨bo,oo+e*2,none⟩=some uo_/\W.cell? ⟨bo,oo+e*2+1,none⟩=some (I_ ca)) from fun W h=>⟨(XK_.o.below h).cell 0,(XK_.o.below h).cell 2,(XC_.o.below h).cell 1,(XC_.o.below h).cell 2,(XO_.o.below h).cell 0,(XO_.o.below h).cell 2,(XO_.o.below h).cell 3,(h.cell (p:=⟨bj,oj+e*2,none⟩) lj).trans yj_,(h.cell (p:=⟨bo,oo+e*2,none⟩) lo).trans yo,(h.cell (p:=⟨bo,oo+e*2+1,none⟩) lo).trans so⟩)
  have HT:=af (fun W (h:Below w8.heap.size w8 W)=>(show dK W uo_ (Kx.au k.ah e).aB by have:=ro.below h;rw [hr3] at this;exact this))
  have HU:=af (fun W (h:Below w8.heap.size w8 W)=>rj.below h)
  have Hm:=af (fun W (h:Below w8.heap.size w8 W)=>(show RM W _ k.mem by have:=(HO.o.below h).rk.m;rw [hr1] at this;exact this))
  have HRm:=af (fun W (h:Below w8.heap.size w8 W)=>HR.o W (B3.o.trans (h.mono B3.o.size)))
  have H5':=af hr5;have hcl:r.1.cache.length<=1099511627776:=HO.o.rk.c.1;clear hr1 hr2 hr3 hr4 hr5 hce hl3 yj_ sj rj yo so ro lj lo he;have p0:=XK_.o.c4;obtain ⟨c0,c1,c2,c3,c4,c5⟩:=XC_.o.c6;obtain ⟨o0,o1,o2,o3⟩:=XO_.o.c4;go_wp2_with fail;clear p0 c0 c1 c2 c3 c4 c5;clear o0 o1 o2 o3;go_loopw [11] (fun i wr=>∃ j:Nat,i=I_ j/\j<=r.1.cache.length/\TI (Below w8.heap.size w8 wr)) (fun i _=>r.1.cache.length - (intOf i).toNat)
  case atStart=>exact ⟨0,rfl,Nat.zero_le _,Below.refl _ _⟩
  case round =>
   obtain ⟨j,rfl,hj,hb⟩:=hrel;have XO':=af (XO_.o.below hb.o);have XC':=af (XC_.o.below hb.o)
   by_cases hlt:j<r.1.cache.length
   ·have Q5:(j:Int)<(r.1.cache.length:Int):=by omega
    have Js:=af hlt;obtain ⟨bc,oc,qc_,ec,lc,g0,g1,g2,g3⟩:=dZ.at (HO.o.below hb.o).rk.c hlt;obtain ⟨rfl,_,rfl⟩:=Za ec;clear ec;have hne:((r.1.cache.getD j Kx.Cached.zero).env==(e:Int))=false:=by
     have:=H5'.o (r.1.cache.getD j Kx.Cached.zero) (by rw [List.getD_eq_getElem?_getD,List.getElem?_eq_getElem hlt];exact List.getElem_mem hlt)
     simpa using this
    have o3:=XO'.o.cell 3;have c1:=XC'.o.cell 1;simp only [List.getElem?_cons_zero,List.getElem?_cons_succ] at o3 c1;generalize r.1.cache.getD j Kx.Cached.zero=x at g0 g1 g2 g3 hne;clear g1 g2 g3 lc;go_wp2_with fail;go_quiet (fail);go_wp2_with fail;go_roundw
    case rel=>exact ⟨j+1,by go_num,Js.o,hb.o.trans ((below_drewN wr _).mono hb.o.size)⟩
    case measure=>have:=Js.o;simp [intOf];omega
   obtain rfl:j=r.1.cache.length:=by omega
   have o3:=XO'.o.cell 3;simp only [List.getElem?_cons_zero,List.getElem?_cons_succ] at o3;go_wp2_with fail;have hb8:=hb.o;clear o3 XO' XC' hlt;have hS0:=IK_.o _ (Below.bz hb8);refine afi IK_ fun hHeld=>?_
   clear hS0;refine afW 0 ?_;refine afV 8 ?_;refine afU 12 ?_;refine uRun1 14 ?_;refine ahk 15 fun K hK=>?_
   (go_simp;go_at_call 18;refine (ab4 _ _ _ _ (Hm.o _ (Below.bz hb8)) (HRm.o _ (Below.bz hb8)).m).mono ?_;rintro en w9 ⟨rfl,hb⟩;have hb9:=hb8.trans ((Below.gG hb).mono hb8.size);clear hb;have hS9:=IK_.o w9 hb9;go_wp2_with fail)
   refine afS hK fun hHeld=>?_
   clear hK K;refine afW 16 ?_;refine afW 24 ?_;refine ahk 32 fun K hK=>?_
   (go_simp;go_at_call 21;refine (ace _ _ _ w9 (HT.o _ hb9) (HU.o _ hb9)).mono ?_;rintro en w10 ⟨rfl,hb⟩;have ach:=hb9.trans ((hb).mono hb9.size);clear hb;have hS10:=IK_.o w10 ach;go_wp2_with fail)
   refine afS hK fun hHeld=>?_
   clear hK K;refine afU 33 ?_;refine wpAnyH_done (by kernel_rfl) ?_ _;go_wp2_with fail;go_ret;exact ⟨rfl,Bw.o.trans (ach.mono Bw.o.size)⟩
 have hI0:(1048576:Int)<(len0:Int):=by omega
 clear h0;go_enter func10,ntmps10;go_wp2_with fail;go_ret;exact ⟨rfl,Below.refl _ _⟩
end Go.Proofs.YtecnmehlbfklnaaGreatDoor
