/- The law FnCallOthers: tables of others are not chosen. (printed by klc.py) -/
import Derived.Test.YtecnmehlbfklnaaGreatDoorKMn
import Derived.Test.YtecnmehlbfklnaaGreatDoorKJh
set_option linter.all false
set_option maxHeartbeats 8000000
set_option maxRecDepth 100000
open Go.Proofs.Tryz
namespace Go.Proofs.YtecnmehlbfklnaaGreatDoor
open Go.RowKit Kx

theorem nmW {B:Nat} {w W:World} (_h:TI (Below B w W)):∃ V,W=V:=⟨_,rfl⟩
theorem onK {W V u v:World} {g h s t:Nat} {l m:List Value} (d:Below W.heap.size W V) (K:TI (BX W g s l)) (C:TI (BX W h t m)) (B:TI (Below u.heap.size u W)) (D:TI (Below v.heap.size v W)):TI (BX V g s l)/\TI (BX V h t m)/\TI (Below u.heap.size u V)/\TI (Below v.heap.size v V):=⟨K.o.below d,C.o.below d,B.o.trans (d.mono B.o.size),D.o.trans (d.mono D.o.size)⟩
theorem onO {W V:World} {g s b:Nat} {l:List Value} {um ui ue uc:Value} {k:Kx.Kernel} (d:Below W.heap.size W V) (K:TI (BX W g s l)) (H:TI (KO W b um ui ue uc k)):TI (BX V g s l)/\TI (KO V b um ui ue uc k):=⟨K.o.below d,H.o.below d⟩
theorem uRun1 {P:Program} {ops:Array Oper} {Q:Exit->Act->World->Prop} {md:Region.Mode} {S:World->Prop} {o1:Oper} {v1:Value} {fuel:Nat} {listed l1:Array Bool} {a a1:Act} {w:World} (i:Nat) (h:wpAnyH P md ops Q S fuel l1 a1 w) (hS:S w:=by assumption) (h1:Stp P md ops Q S i o1 v1 listed l1 a a1:=by exact stp):wpAnyH P md ops Q S (fuel+1) listed a w:=h1.go hS h
end Go.Proofs.YtecnmehlbfklnaaGreatDoor
namespace Kx
theorem callK_envs {k:Kernel} (hk:Ok k) {c:Call} (he:bK c.env 0 2=true):(cO k c).1.ah.length=3/\∀ e:Nat,((e:Int)≠c.env->(au (cO k c).1.ah e).root=(au k.ah e).root)/\(c.kind≠8->c.kind≠9->(au (cO k c).1.ah e).aB=(au k.ah e).aB):=by
 rw [ay] at he;have hl:c.env.toNat<k.ah.length:=by rw [hk.e3];omega
 have same:∀ k':Kernel,k'.ah=k.ah->k'.ah.length=3/\∀ e:Nat,((e:Int)≠c.env->(au k'.ah e).root=(au k.ah e).root)/\(c.kind≠8->c.kind≠9->(au k'.ah e).aB=(au k.ah e).aB):=
  fun k' h=>⟨by rw [h,hk.e3],fun e=>by rw [h];exact ⟨fun _=>rfl,fun _ _=>rfl⟩⟩
 have sr:∀ (i:Int) (l:List Str),0<=i->i<=2->c.kind=8\/c.kind=9->(aY k.ah i.toNat l).length=3/\∀ e:Nat,((e:Int)≠c.env->(au (aY k.ah i.toNat l) e).root=(au k.ah e).root)/\(c.kind≠8->c.kind≠9->(au (aY k.ah i.toNat l) e).aB=(au k.ah e).aB):=by
  intro i l h0 h2 Zp;have hl:i.toNat<k.ah.length:=by rw [hk.e3];omega
  refine ⟨by unfold aY;rw [List.length_set,hk.e3],fun e=>⟨fun _=>?_,fun h8 h9=>?_⟩⟩
  ·unfold aY;rw [mr hl];split
   ·rename_i h;rw [h]
   rfl
  rcases Zp with h | h
  ·exact absurd h h8
  exact absurd h h9
 have hd:(qm k c).1.ah.length=3/\∀ e:Nat,((e:Int)≠c.env->(au (qm k c).1.ah e).root=(au k.ah e).root)/\(c.kind≠8->c.kind≠9->(au (qm k c).1.ah e).aB=(au k.ah e).aB):=by
  unfold qm;split
  ·apply same;unfold take;split;rfl;split;rfl;split <;> rfl
  split
  ·apply same;unfold give;split;rfl;split <;> rfl
  split
  ·apply same;unfold oP;split;rfl;split <;> rfl
  split
  ·apply same;unfold lu;split;rfl;split;rfl;split;rfl;split <;> rfl
  split
  ·apply same;unfold lQ;split;rfl;split;rfl;split;rfl;split <;> rfl
  split
  ·unfold mM;split
   ·exact same _ rfl
   split
   ·exact same _ rfl
   refine ⟨by show (dE k.ah c.env.toNat c.a).length=3;unfold dE;rw [List.length_set,hk.e3],fun e=>⟨fun hne=>?_,fun _ _=>?_⟩⟩
   ·show (au (dE k.ah c.env.toNat c.a) e).root=_
    unfold dE;rw [mr hl,if_neg (by omega)]
   show (au (dE k.ah c.env.toNat c.a) e).aB=_
   unfold dE;rw [mr hl];split
   ·rename_i h;rw [h]
   rfl
  split
  ·rename_i Zp
   unfold f_;split
   ·exact same _ rfl
   rename_i h1
   have ha:bK c.a 0 2=true:=by
    cases ha:bK c.a 0 2 with
    | true=>rfl
    | false=>rw [ha] at h1;exact absurd rfl h1
   rw [ay] at ha;split
   ·exact same _ rfl
   split
   ·split
    ·exact sr _ _ ha.1 ha.2 Zp
    exact same _ rfl
   split
   ·exact same _ rfl
   exact sr _ _ ha.1 ha.2 Zp
  split
  ·apply same;unfold access;split;rfl;split;split;rfl;split;rfl;split <;> rfl
  exact same _ rfl
 unfold cO;split
 ·exact same _ rfl
 exact hd
end Kx
namespace Go.Proofs.YtecnmehlbfklnaaGreatDoor
open Go.RowKit Kx

theorem FnCallOthers_c (a:Option Addr) (len0 cap0:Nat) (zr:List Int) (w:World) (h0:abT .u8 w a len0 cap0 zr) :
  Calls prog 6 #[.slice a len0 cap0] w (aez w):=by
 by_cases hl0:len0<=1048576
 ·have hI0:¬ (1048576:Int)<(len0:Int):=by omega
  have Hr:=af (abT.rb h0);clear h0;go_enter func6,ntmps6;go_wp2_with fail;clear hI0;refine (adi _ _ _ Hr.o).mono ?_;rintro en w1 ⟨k,⟨bQ,JF,ca,cb,cc,bg⟩,_,_,_,_,rfl,hsl,hs,hnm,hcm,hk,hb⟩;obtain ⟨⟨a0,n0,m0,rfl⟩,⟨a1,n1,m1,rfl⟩,⟨a2,n2,m2,rfl⟩,⟨a3,n3,m3,rfl⟩⟩:=hsl;unfold dW;obtain ⟨u1,hu1⟩:∃ V,w1.alloc (.cells #[.slice none 0 0,.slice none 0 0,.slice none 0 0,.slice none 0 0] 28)=V:=⟨_,rfl⟩;obtain ⟨u2,hu2⟩:∃ V,u1.alloc (.cells #[I_ 0,I_ 0,I_ 0,I_ 0,I_ 0,.string ⟨#[]⟩] 30)=V:=⟨_,rfl⟩;have Bu1:Below w1.heap.size w1 u1:=hu1 ▸ dm;have Bu2:Below u1.heap.size u1 u2:=hu2 ▸ dm;have su_:w1.heap.size<u1.heap.size:=by rw [<-hu1];simp
  have YK_:=af (show BX u2 w1.heap.size 28 [.slice none 0 0,.slice none 0 0,.slice none 0 0,.slice none 0 0] from (hu1 ▸ BX.new w1 _ _:BX u1 _ _ _).below Bu2);have YC_:=af (show BX u2 u1.heap.size 30 [I_ 0,I_ 0,I_ 0,I_ 0,I_ 0,.string ⟨#[]⟩] from hu2 ▸ BX.new u1 _ _);have BU_:=af (Bu1.trans (Bu2.mono Bu1.size));have p0:=YK_.o.c4;obtain ⟨q0,q1,q2,q3⟩:=YK_.o.f4;have Y1_:=BX.iq (Nat.ne_of_gt su_) [.slice a0 n0 m0,.slice a1 n1 m1,.slice a2 n2 m2,.slice a3 n3 m3] 0 YC_.o;have Y0_:=YK_.o.sets [.slice a0 n0 m0,.slice a1 n1 m1,.slice a2 n2 m2,.slice a3 n3 m3] rfl;rw [<-afA] at Y0_ Y1_;have Y2:=Y1_.sets [I_ bQ,I_ JF,I_ ca,I_ cb,I_ cc,.string bg] rfl;have Y3_:=BX.iq (Nat.ne_of_lt su_) [I_ bQ,I_ JF,I_ ca,I_ cb,I_ cc,.string bg] 0 Y0_
  have BF:=dP (Nat.le_of_lt su_) [I_ bQ,I_ JF,I_ ca,I_ cb,I_ cc,.string bg] 0 (dP aW [.slice a0 n0 m0,.slice a1 n1 m1,.slice a2 n2 m2,.slice a3 n3 m3] 0 BU_.o);rw [<-afA] at BF;rw [<-afB] at Y2 Y3_ BF;obtain ⟨d0,d1,d2,d3,d4,d5⟩:=Y1_.c6;have f0:=Y1_.frozen 0;have f1:=Y1_.frozen 1;have f2:=Y1_.frozen 2;have f3:=Y1_.frozen 3;have f4:=Y1_.frozen 4;have f5:=Y1_.frozen 5;have e0:=Y3_.c4;have g0:=Y2.c6;have HY2:=af Y2;have HY3:=af Y3_;have HBF:=af BF;clear Y0_ Y1_ Y2 Y3_ BF YK_ YC_ BU_ Bu1 Bu2;go_wp2_with fail;clear hu1 hu2 p0 q0 q1 q2 q3 d0 d1 d2 d3 d4 d5 f0 f1 f2 f3 f4 f5 e0 g0;obtain ⟨w3,hw3⟩:=nmW HBF;rw [hw3] at HY2 HY3 HBF ⊢;have XK_:=HY3;have XC_:=HY2;have TP:=HBF.o;have Bw:=af (hb.trans (TP.mono hb.size));have HR:=af (fun W (h:Below w3.heap.size w3 W)=>(hk.below TP).below h)
  have Hs:=af hs;have HI:=af (fun W (h:Below w3.heap.size w3 W)=>adb k ⟨bQ,JF,ca,cb,cc,bg⟩ _ _ _ _ W (HR.o W h) hs hnm hcm)
  have HS:=af (fun W (h:Below w3.heap.size w3 W)=>ac9 k ⟨bQ,JF,ca,cb,cc,bg⟩ _ _ _ _ W (HR.o W h) hs hnm)
  have Hnm:=af hnm;have Hcm:=af hcm;obtain ⟨r,hr⟩:=XP (QH k ⟨bQ,JF,ca,cb,cc,bg⟩);have HX:=af hr;rw [hr] at HI HS;unfold dW at HI HS;have B3:=af (Below.refl w3.heap.size w3);clear hs hnm hcm hk hb TP Hr hr hw3 HY2 HY3 HBF;refine (HI.o w3 B3.o).mono ?_;rintro en w4 ⟨_,_,_,_,rfl,hko,hb⟩;obtain ⟨⟨b0,q0,z0,rfl⟩,⟨b1,q1,z1,rfl⟩,⟨b2,q2,z2,rfl⟩,⟨b3,q3,z3,rfl⟩⟩:=hko.sl;obtain ⟨XK_,XC_,Bw,B3⟩:=onK hb XK_ XC_ Bw B3;obtain ⟨w5,hw5⟩:∃ V,w4.alloc (.cells #[.slice b0 q0 z0,.slice b1 q1 z1,.slice b2 q2 z2,.slice b3 q3 z3] 28)=V:=⟨_,rfl⟩;have Bw5:Below w4.heap.size w4 w5:=hw5 ▸ dm;have XO_:=af (show BX w5 w4.heap.size 28 [.slice b0 q0 z0,.slice b1 q1 z1,.slice b2 q2 z2,.slice b3 q3 z3] from hw5 ▸ BX.new w4 _ _);have HO:=af (hko.below Bw5);obtain ⟨XK_,XC_,Bw,B3⟩:=onK Bw5 XK_ XC_ Bw B3;clear hko hb Bw5;have p0:=XK_.o.c4;have c0:=XC_.o.c6
  go_wp2_with fail
  try rw [hw5]
  clear hw5 p0;clear c0;refine (HS.o w5 B3.o).mono ?_;rintro en w6 ⟨_,_,_,_,rfl,hko,hb⟩;obtain ⟨⟨d0,x0,y0,rfl⟩,⟨d1,x1,y1,rfl⟩,⟨d2,x2,y2,rfl⟩,⟨d3,x3,y3,rfl⟩⟩:=hko.sl;obtain ⟨XK_,XC_,Bw,B3⟩:=onK hb XK_ XC_ Bw B3;obtain ⟨XO_,HO⟩:=onO hb XO_ HO;obtain ⟨w7,hw7⟩:∃ V,w6.alloc (.cells #[.slice d0 x0 y0,.slice d1 x1 y1,.slice d2 x2 y2,.slice d3 x3 y3] 28)=V:=⟨_,rfl⟩;have Bw7:Below w6.heap.size w6 w7:=hw7 ▸ dm;have XW_:=af (show BX w7 w6.heap.size 28 [.slice d0 x0 y0,.slice d1 x1 y1,.slice d2 x2 y2,.slice d3 x3 y3] from hw7 ▸ BX.new w6 _ _);have HW:=af (hko.below Bw7);obtain ⟨XK_,XC_,Bw,B3⟩:=onK Bw7 XK_ XC_ Bw B3;obtain ⟨XO_,HO⟩:=onO Bw7 XO_ HO;clear hko hb Bw7 HI HS;have o0:=XO_.o.c4;have t0:=XW_.o.c4;go_wp2_with fail
  try rw [hw7]
  clear hw7 o0;clear t0;refine (adE r.1 _ _ _ _ _ _ _ _ _ HO.o.rk HW.o.rk).mono ?_;rintro en w8 ⟨rfl,hb⟩;obtain ⟨XK_,XC_,Bw,B3⟩:=onK hb XK_ XC_ Bw B3;obtain ⟨XO_,HO⟩:=onO hb XO_ HO;obtain ⟨XW_,HW⟩:=onO hb XW_ HW;clear hb
  by_cases h5:r.2.2=5
  ·have h5b:(r.2.2==5)=true:=by simpa using h5
   clear h5;have c0:=XC_.o.c6;have o0:=XO_.o.c4;have t0:=XW_.o.c4;go_wp2_with fail;refine (adE r.1 _ _ _ _ _ _ _ _ _ HO.o.rk HW.o.rk).mono ?_;rintro en w9 ⟨rfl,hb⟩;obtain ⟨XK_,XC_,Bw,B3⟩:=onK hb XK_ XC_ Bw B3;obtain ⟨XO_,HO⟩:=onO hb XO_ HO;obtain ⟨XW_,HW⟩:=onO hb XW_ HW;clear hb o0;clear t0 c0;go_wp2_with fail;go_ret;exact ⟨rfl,Bw.o⟩
  have h5b:(r.2.2==5)=false:=by simpa using h5
  have H5:=af h5;clear h5;have HP:=af (adQ (k:=k) (c:=⟨bQ,JF,ca,cb,cc,bg⟩) (by rw [HX.o];exact H5.o));have HC:=af (show Kx.cO k ⟨bQ,JF,ca,cb,cc,bg⟩=r from HP.o.2.2.1.symm.trans HX.o);have Yy:=af (nN.1 HP.o.1);have he:=Kx.callK_envs Yy.o (c:=⟨bQ,JF,ca,cb,cc,bg⟩) HP.o.2.1;rw [HC.o] at he;simp only at he;have hl3:k.ah.length=3:=Yy.o.e3;obtain ⟨aj,qj_,ej,_,_⟩:=(HR.o w8 B3.o).e.len.2;obtain ⟨rfl,rfl,rfl⟩:=Za ej;clear ej;obtain ⟨ao,qo_,eo,_,_⟩:=HO.o.rk.e.len.2;obtain ⟨rfl,rfl,rfl⟩:=Za eo;clear eo;have HE:=af he;have Hl3:=af hl3;have HRm:=af (fun W (h:Below w8.heap.size w8 W)=>HR.o W (B3.o.trans (h.mono B3.o.size)))
  clear he hl3;have p0:=XK_.o.c4;have c0:=XC_.o.c6;have o0:=XO_.o.c4;go_wp2_with fail;clear p0 c0;clear o0;go_loopw [11] (fun i wr=>∃ j:Nat,i=I_ j/\j<=3/\TI (Below w8.heap.size w8 wr)) (fun i _=>3 - (intOf i).toNat)
  case atStart=>exact ⟨0,rfl,Nat.zero_le _,Below.refl _ _⟩
  case round =>
   obtain ⟨j,rfl,hj,hb⟩:=hrel
   by_cases hlt:j<3
   ·have Q5:(j:Int)<3:=by omega
    obtain ⟨hq1,hq2⟩:=HE.o.2 j;obtain ⟨bj,oj,_,uj_,ej,lj,yj_,sj,rj⟩:=(HRm.o _ hb.o).e.at (k:=j) (by rw [Hl3.o];exact hlt);obtain ⟨rfl,_,rfl⟩:=Za ej;clear ej;obtain ⟨bo,oo,_,uo_,eo,lo,yo,so,ro⟩:=(HO.o.below hb.o).rk.e.at (k:=j) (by rw [HE.o.1];exact hlt);obtain ⟨rfl,_,rfl⟩:=Za eo;clear eo;have ijk:(j:Int)<(k.ah.length:Int):=by rw [Hl3.o];omega
    have ijo:(j:Int)<(r.1.ah.length:Int):=by rw [HE.o.1];omega
    have XK':=af (XK_.o.below hb.o);have XO':=af (XO_.o.below hb.o);have XC':=af (XC_.o.below hb.o)
    have IK_:=af (show ∀ W,Below wr.heap.size wr W->(W.cell? ⟨w1.heap.size,2,none⟩=some (.slice (some ⟨bj,oj,none⟩) k.ah.length m2)/\W.cell? ⟨u1.heap.size,0,none⟩=some (I_ bQ)/\W.cell? ⟨u1.heap.size,1,none⟩=some (I_ JF)/\W.cell? ⟨w4.heap.size,2,none⟩=some (.slice (some ⟨bo,oo,none⟩) r.1.ah.length z2)/\W.cell? ⟨bj,oj+j*2,none⟩=some uj_/\W.cell? ⟨bj,oj+j*2+1,none⟩=some (I_ (Kx.au k.ah j).root)/\W.cell? ⟨bo,oo+j*2,none⟩=some uo_/\W.cell? ⟨bo,oo+j*2+1,none⟩=some (I_ (Kx.au r.1.ah j).root)) from fun W h=>⟨(XK'.o.below h).cell 2,(XC'.o.below h).cell 0,(XC'.o.below h).cell 1,(XO'.o.below h).cell 2,(h.cell (p:=⟨bj,oj+j*2,none⟩) lj).trans yj_,(h.cell (p:=⟨bj,oj+j*2+1,none⟩) lj).trans sj,(h.cell (p:=⟨bo,oo+j*2,none⟩) lo).trans yo,(h.cell (p:=⟨bo,oo+j*2+1,none⟩) lo).trans so⟩)
    have HT:=af ro;have HU:=af rj;clear yj_ sj rj yo so ro lj lo;have hr9:((j:Int) != JF)=true->((Kx.au r.1.ah j).root != (Kx.au k.ah j).root)=false:=fun h=>by rw [hq1 (by simpa using h)];simp
    generalize (Kx.au r.1.ah j).root=ra at IK_ hr9;generalize (Kx.au k.ah j).root=rb at IK_ hr9;have hb8:=Below.refl wr.heap.size wr;have HB:=af hb.o
    by_cases hk:bQ=8\/bQ=9
    ·by_cases h1:(j:Int)=JF
     all_goals (first | (have h1b:((j:Int) != JF)=false:=by simp [h1]) | (have h1b:((j:Int) != JF)=true:=by simpa using h1))
     all_goals (first | (have hra:=hr9 h1b) | skip)
     all_goals (clear hr9 hq1 hq2 h1;rcases hk with rfl | rfl)
     all_goals (
      go_wp2_with fail;have hS0:=IK_.o _ (Below.bz hb8);refine afi IK_ fun hHeld=>?_
      clear hS0;refine afW 0 ?_;refine afW 8 ?_;refine afW 16 ?_;refine afW 24 ?_;refine afW 32 ?_;refine uRun1 40 ?_;refine afV 41 ?_;refine wpAnyH_done (by kernel_rfl) ?_ _;go_wp2_with fail;go_roundw
      case rel=>exact ⟨j+1,by go_num,by omega,Below.bz HB.o⟩
      case measure=>simp [intOf];omega)
    have h8:bQ≠8:=fun h=>hk (.inl h)
    have h9:bQ≠9:=fun h=>hk (.inr h)
    have h8b:(bQ != 8)=true:=by simpa using h8
    have h9b:(bQ != 9)=true:=by simpa using h9
    have HT':=af (show dK wr uo_ (Kx.au k.ah j).aB by have:=HT.o;rw [hq2 h8 h9] at this;exact this)
    by_cases h1:(j:Int)=JF
    all_goals (first | (have h1b:((j:Int) != JF)=false:=by simp [h1]) | (have h1b:((j:Int) != JF)=true:=by simpa using h1))
    all_goals (first | (have hra:=hr9 h1b) | skip)
    all_goals clear hr9 hq1 hq2 h1 h8 h9 hk
    all_goals (
     go_wp2_with fail;have hS0:=IK_.o _ (Below.bz hb8);refine afi IK_ fun hHeld=>?_
     clear hS0;refine afW 0 ?_;refine afW 8 ?_;refine afW 16 ?_;refine afW 24 ?_;refine afW 32 ?_;refine uRun1 40 ?_;refine ahk 41 fun K hK=>?_
     (go_simp;go_at_call 21;refine (ace _ _ _ _ (HT'.o.below (Below.bz hb8)) (HU.o.below (Below.bz hb8))).mono ?_;rintro en w9 ⟨rfl,hb⟩;have hb9:=hb8.trans ((Below.gG hb).mono hb8.size);clear hb;have hS9:=IK_.o w9 hb9;go_wp2_with fail)
     refine afS hK fun hHeld=>?_
     clear hK K;refine afU 42 ?_;refine uRun1 44 ?_;refine wpAnyH_done (by kernel_rfl) ?_ _;go_wp2_with fail;go_roundw
     case rel=>exact ⟨j+1,by go_num,by omega,HB.o.trans (hb9.mono HB.o.size)⟩
     case measure=>simp [intOf];omega)
   obtain rfl:j=3:=by omega
   go_wp2_with fail;go_ret;exact ⟨rfl,Bw.o.trans (hb.o.mono Bw.o.size)⟩
 have hI0:(1048576:Int)<(len0:Int):=by omega
 clear h0;go_enter func6,ntmps6;go_wp2_with fail;go_ret;exact ⟨rfl,Below.refl _ _⟩
end Go.Proofs.YtecnmehlbfklnaaGreatDoor
