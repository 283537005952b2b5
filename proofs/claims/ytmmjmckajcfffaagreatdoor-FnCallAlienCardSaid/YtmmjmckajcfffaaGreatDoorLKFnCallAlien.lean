/- The law FnCallAlien: frames of others are not touched. (printed by klc.py) -/
import Derived.Test.YtmmjmckajcfffaaGreatDoorKMn
set_option linter.all false
set_option maxHeartbeats 8000000
set_option maxRecDepth 100000
open Go.Proofs.Tryz
open Go.Value renaming slice->A0
namespace Go.Proofs.YtmmjmckajcfffaaGreatDoor
open Go.RowKit Kx
theorem acO (r:List Kx.Str) (g:Kx.Str) (u:Value) (w:World) (hr:dK w u r) (Zq:Dw r) (hro:aS r=true) (hg:bT g=true) (hgs:g.size<=9223372036854775807) :
  Calls prog 19 #[u,.string g] w fun e w'=>e=.returned (.bool (Kx.may r g))/\Below w.heap.size w w':=by
 have HR:=af hr;have Hsr:=af Zq;have mW:=af hro;have Hg:=af hg;have YI:=af hgs;clear hr Zq hro hg hgs;go_enter func19,ntmps19;go_wp2_with fail;refine (eG r _ _ HR.o Hsr.o).mono ?_;rintro e w3 ⟨rfl,hb⟩;rw [mW.o];have B0:=af hb;clear hb;go_wp2_with fail;refine (oM g _ YI.o).mono ?_;rintro e w4 ⟨rfl,hb⟩;rw [Hg.o];replace B0:=af (B0.o.trans (hb.mono B0.o.size));clear hb;go_wp2_with fail;refine (AP r g _ _ (RS.below HR.o B0.o)).mono ?_;rintro e w5 ⟨rfl,hb⟩;replace B0:=af (B0.o.trans (hb.mono B0.o.size));clear hb;obtain ⟨ans,hans⟩:∃ b,Kx.may r g=b:=⟨_,rfl⟩;rw [hans];have pI:=af hans;clear hans;go_wp2_with fail;go_ret;exact ⟨by rw [pI.o];rfl,B0.o⟩
theorem nmW {B:Nat} {w W:World} (_h:TI (Below B w W)):∃ V,W=V:=⟨_,rfl⟩
theorem onK {W V u v:World} {g h s t:Nat} {l m:List Value} (d:Below W.heap.size W V) (K:TI (BX W g s l)) (C:TI (BX W h t m)) (B:TI (Below u.heap.size u W)) (D:TI (Below v.heap.size v W)):TI (BX V g s l)/\TI (BX V h t m)/\TI (Below u.heap.size u V)/\TI (Below v.heap.size v V):=⟨K.o.below d,C.o.below d,B.o.trans (d.mono B.o.size),D.o.trans (d.mono D.o.size)⟩
theorem onO {W V:World} {g s b:Nat} {l:List Value} {um ui ue uc:Value} {k:Kx.Kernel} (d:Below W.heap.size W V) (K:TI (BX W g s l)) (H:TI (KO W b um ui ue uc k)):TI (BX V g s l)/\TI (KO V b um ui ue uc k):=⟨K.o.below d,H.o.below d⟩
theorem ac' {P:Program} {ops:Array Oper} {Q:Exit->Act->World->Prop} {md:Region.Mode} {S:World->Prop} {o1:Oper} {v1:Value} {fuel:Nat} {listed l1:Array Bool} {a a1:Act} {w:World} (i:Nat) (h:wpAnyH P md ops Q S fuel l1 a1 w) (hS:S w:=by assumption) (h1:Stp P md ops Q S i o1 v1 listed l1 a a1:=by exact stp):wpAnyH P md ops Q S (fuel+1) listed a w:=h1.go hS h
end Go.Proofs.YtmmjmckajcfffaaGreatDoor
namespace Kx

def Sf (k k':Kernel) (f:Nat):Prop:=row k'.mem f=row k.mem f/\(inf k'.ag f).kind=(inf k.ag f).kind/\(inf k'.ag f).guard=(inf k.ag f).guard
theorem Sf.of {k k':Kernel} {f:Nat} (h1:k'.mem=k.mem) (h2:k'.ag=k.ag):Sf k k' f:=by unfold Sf;rw [h1,h2];exact ⟨rfl,rfl,rfl⟩
theorem setRefs_kg {l:List aG} {g f:Nat} {d:Int} (hg:g<l.length):(inf (aF l g d) f).kind=(inf l f).kind/\(inf (aF l g d) f).guard=(inf l f).guard:=by
 rw [lU hg];split
 ·rename_i h;rw [h];exact ⟨rfl,rfl⟩
 exact ⟨rfl,rfl⟩
theorem frame_ne {k:Kernel} {c:Call} {kd:Int} {f:Nat} (h:aO k c kd=0) (hm:jQ k c.env (inf k.ag f).guard=false):c.a.toNat<12/\f≠c.a.toNat:=by
 obtain ⟨_,h1,_,h2,_⟩:=fQ h;exact ⟨h1,fun e=>by rw [e,h2] at hm;cases hm⟩
theorem callK_alien {k:Kernel} (hk:Ok k) {c:Call} (he:bK c.env 0 2=true) {f:Nat} (h0:(inf k.ag f).kind≠0) (hm:jQ k c.env (inf k.ag f).guard=false):Sf k (cO k c).1 f:=by
 rw [ay] at he;have hl:∀ g,g<12->g<k.ag.length:=fun g h=>by rw [hk.i12];exact h
 have hl':∀ g,g<12->g<k.mem.length:=fun g h=>by rw [hk.m12];exact h
 have hd:Sf k (qm k c).1 f:=by
  unfold qm;split
  ·unfold take;split
   ·exact .of rfl rfl
   split
   ·exact .of rfl rfl
   split
   ·exact .of rfl rfl
   rename_i g hg
   obtain ⟨h1,h2⟩:=wE hg;have hne:f≠g:=fun e=>h0 (by rw [e];exact h2)
   rw [hk.i12] at h1;refine ⟨?_,?_,?_⟩
   ·show row (k.mem.set g _) f=_;rw [rC (hl' g h1),if_neg hne]
   ·show (inf (k.ag.set g _) f).kind=_;rw [nJ (hl g h1),if_neg hne]
   show (inf (k.ag.set g _) f).guard=_;rw [nJ (hl g h1),if_neg hne]
  split
  ·unfold give;split
   ·exact .of rfl rfl
   rename_i hc
   obtain ⟨h1,hne⟩:=frame_ne (Classical.not_not.1 hc) hm;split
   ·exact .of rfl rfl
   refine ⟨rfl,?_,?_⟩
   ·show (inf (k.ag.set _ _) f).kind=_;rw [nJ (hl _ h1),if_neg hne]
   show (inf (k.ag.set _ _) f).guard=_;rw [nJ (hl _ h1),if_neg hne]
  split
  ·unfold oP;split
   ·exact .of rfl rfl
   rename_i hc
   obtain ⟨h1,hne⟩:=frame_ne (Classical.not_not.1 hc) hm;split
   ·exact .of rfl rfl
   exact ⟨by show row (bG k.mem _ _ _) f=_;rw [iH (hl' _ h1),if_neg hne],rfl,rfl⟩
  split
  ·rename_i h45
   unfold lu;split
   ·exact .of rfl rfl
   rename_i ha
   split
   ·exact .of rfl rfl
   rename_i hb
   split
   ·exact .of rfl rfl
   rename_i hp1
   split
   ·exact .of rfl rfl
   rename_i hp2
   have hx:bK c.a 0 11=true/\(c.kind=4->aX c.b=true):=by
    refine ⟨?_,fun h4=>?_⟩
    ·cases h:bK c.a 0 11 with
     | true=>rfl
     | false=>rw [h] at ha;exact absurd rfl ha
    cases h:aX c.b with
    | true=>rfl
    | false=>rw [h,h4] at ha;simp at ha
   have wR:jQ k c.env (inf k.ag c.a.toNat).guard=true:=by simpa using hb
   have hne:f≠c.a.toNat:=fun e=>by rw [<-e,hm] at wR;cases wR
   have h12:c.a.toNat<12:=by have:=ay.1 hx.1;omega
   have hpd:(pinned k c).2=0:=by
    rcases uO hk c hx.1 (ay.2 he) hx.2 with h | h | h
    ·exact h
    ·exact absurd h hp1
    exact absurd h hp2
   obtain ⟨l',hp⟩:∃ l',pinned k c=(l',0):=⟨_,Prod.ext rfl hpd⟩;rw [hp];have hfs:∀ g:Nat,∀ x ∈ ax (row k.mem g),x<12:=fun g x hx=>kE hx
   have kg:∀ kd d,(inf (bD (setKind k.ag c.a.toNat kd) (ax (row k.mem c.a.toNat)) d) f).kind=(inf k.ag f).kind/\(inf (bD (setKind k.ag c.a.toNat kd) (ax (row k.mem c.a.toNat)) d) f).guard=(inf k.ag f).guard:=by
    intro kd d;rw [tJ hk.i12 h12 (hfs _)];simp [hne]
   unfold pinned at hp;split at hp
   ·obtain ⟨_,_,_,_,_,_,_,_,_,rfl⟩:=Ep hp;exact ⟨rfl,(kg _ _).1,(kg _ _).2⟩
   obtain ⟨_,_,_,_,_,rfl⟩:=zo hp;exact ⟨rfl,(kg _ _).1,(kg _ _).2⟩
  split
  ·unfold lQ;split
   ·exact .of rfl rfl
   rename_i hc
   obtain ⟨h1,hne⟩:=frame_ne (Classical.not_not.1 hc) hm;split
   ·exact .of rfl rfl
   split
   ·exact .of rfl rfl
   split
   ·exact .of rfl rfl
   have hlen:(aP k.ag (word k.mem c.a.toNat c.b.toNat) (-1)).length=12:=by rw [fH,hk.i12]
   refine ⟨?_,?_,?_⟩
   ·show row (bG k.mem _ _ _) f=_;rw [iH (hl' _ h1),if_neg hne]
   ·show (inf (aP (aP k.ag _ _) _ _) f).kind=_;rw [iI hlen,iI hk.i12]
   show (inf (aP (aP k.ag _ _) _ _) f).guard=_;rw [iI hlen,iI hk.i12]
  split
  ·unfold mM;split
   ·exact .of rfl rfl
   rename_i hr1
   split
   ·exact .of rfl rfl
   dsimp only
   have hc:0<=c.a->c.a.toNat<12:=by
    intro h
    by_cases e:c.a=-1
    ·omega
    cases ha:bK c.a 0 11 with
    | true=>have:=ay.1 ha;omega
    | false=>rw [ha] at hr1;exact absurd ⟨e,rfl⟩ hr1
   have ho:0<=(au k.ah c.env.toNat).root->(au k.ah c.env.toNat).root.toNat<12:=by
    intro h;rcases hk.root c.env.toNat (by omega) with h' | h' <;> omega
   have l1:(if 0<=(au k.ah c.env.toNat).root then aF k.ag (au k.ah c.env.toNat).root.toNat (-1) else k.ag).length=12:=by
    split
    ·rw [fD,hk.i12]
    exact hk.i12
   have k1:(inf (if 0<=(au k.ah c.env.toNat).root then aF k.ag (au k.ah c.env.toNat).root.toNat (-1) else k.ag) f).kind=(inf k.ag f).kind/\(inf (if 0<=(au k.ah c.env.toNat).root then aF k.ag (au k.ah c.env.toNat).root.toNat (-1) else k.ag) f).guard=(inf k.ag f).guard:=by
    split
    ·rename_i h;exact setRefs_kg (hl _ (ho h))
    exact ⟨rfl,rfl⟩
   generalize (if 0<=(au k.ah c.env.toNat).root then aF k.ag (au k.ah c.env.toNat).root.toNat (-1) else k.ag)=L at l1 k1;have k2:(inf (if 0<=c.a then aF L c.a.toNat 1 else L) f).kind=(inf k.ag f).kind/\(inf (if 0<=c.a then aF L c.a.toNat 1 else L) f).guard=(inf k.ag f).guard:=by
    split
    ·rename_i h
     have:=setRefs_kg (l:=L) (f:=f) (d:=1) (show c.a.toNat<L.length by rw [l1];exact hc h)
     exact ⟨this.1.trans k1.1,this.2.trans k1.2⟩
    exact k1
   exact ⟨rfl,k2.1,k2.2⟩
  split
  ·unfold f_;split
   ·exact .of rfl rfl
   split
   ·exact .of rfl rfl
   split
   ·split <;> exact .of rfl rfl
   split <;> exact .of rfl rfl
  split
  ·unfold access;split
   ·exact .of rfl rfl
   rename_i hb
   have ha:bK c.a 0 63=true:=by
    cases hx:bK c.a 0 63 with
    | true=>rfl
    | false=>rw [hx] at hb;exact absurd rfl hb
   have hr:0<=(au k.ah c.env.toNat).root:=by
    refine Int.not_lt.1 fun h=>?_
    rw [decide_eq_true h] at hb;simp at hb
   have hp:=hk.place (env:=c.env) ha;generalize placeOf k c.env c.a=P at hp ⊢;obtain ⟨⟨g,w⟩,code⟩:=P;simp only at hp ⊢;split
   ·exact .of rfl rfl
   rename_i hcode
   have hcode:=Classical.not_not.1 hcode;split
   ·exact .of rfl rfl
   split
   ·obtain ⟨g',e1,_,h12,_,hin⟩:=hk.walked (e:=c.env.toNat) (by omega) hr (ad:=c.a.toNat) (by rw [<-hp.1];exact hcode);have hg:g=(g':Int):=by have:=congrArg Prod.fst (hp.2 hcode);simp only at this;rw [this,e1]
    subst hg;have hne:f≠g':=fun e=>by
     have:=hk.all c.env.toNat (by omega) g' hin
     rw [<-e] at this;unfold jQ at hm;rw [this] at hm
     cases hm
    exact ⟨by show row (bG k.mem _ _ _) f=_;rw [iH (hl' _ (by simpa using h12)),if_neg (by simpa using hne)],rfl,rfl⟩
   exact .of rfl rfl
  exact .of rfl rfl
 unfold cO;split
 ·exact .of rfl rfl
 exact hd
end Kx
namespace Go.Proofs.YtmmjmckajcfffaaGreatDoor
open Go.RowKit Kx

theorem FnCallAlien_c (a:Option Addr) (len0 cap0:Nat) (zr:List Int) (w:World) (h0:abT .u8 w a len0 cap0 zr) :
  Calls prog 3 #[.slice a len0 cap0] w (aez w):=by
 by_cases hl0:len0<=1048576
 ·have hI0:¬ (1048576:Int)<(len0:Int):=by omega
  have Hr:=af (abT.rb h0);clear h0;go_enter func3,ntmps3;go_wp2_with fail;clear hI0;refine (adi _ _ _ Hr.o).mono ?_;rintro en w1 ⟨k,⟨bQ,JF,ca,cb,cc,bg⟩,_,_,_,_,rfl,hsl,hs,hnm,hcm,hk,hb⟩;obtain ⟨⟨a0,n0,m0,rfl⟩,⟨a1,n1,m1,rfl⟩,⟨a2,n2,m2,rfl⟩,⟨a3,n3,m3,rfl⟩⟩:=hsl;unfold dW;obtain ⟨u1,hu1⟩:∃ V,w1.alloc (.cells #[.slice none 0 0,.slice none 0 0,.slice none 0 0,.slice none 0 0] 28)=V:=⟨_,rfl⟩;obtain ⟨u2,hu2⟩:∃ V,u1.alloc (.cells #[I_ 0,I_ 0,I_ 0,I_ 0,I_ 0,.string ⟨#[]⟩] 30)=V:=⟨_,rfl⟩;have Bu1:Below w1.heap.size w1 u1:=hu1 ▸ dm;have Bu2:Below u1.heap.size u1 u2:=hu2 ▸ dm;have su_:w1.heap.size<u1.heap.size:=by rw [<-hu1];simp
  have YK_:=af (show BX u2 w1.heap.size 28 [.slice none 0 0,.slice none 0 0,.slice none 0 0,.slice none 0 0] from (hu1 ▸ BX.new w1 _ _:BX u1 _ _ _).below Bu2);have YC_:=af (show BX u2 u1.heap.size 30 [I_ 0,I_ 0,I_ 0,I_ 0,I_ 0,.string ⟨#[]⟩] from hu2 ▸ BX.new u1 _ _);have BU_:=af (Bu1.trans (Bu2.mono Bu1.size));have p0:=YK_.o.c4;obtain ⟨q0,q1,q2,q3⟩:=YK_.o.f4;have Y1_:=BX.iq (Nat.ne_of_gt su_) [.slice a0 n0 m0,.slice a1 n1 m1,.slice a2 n2 m2,.slice a3 n3 m3] 0 YC_.o;have Y0_:=YK_.o.sets [.slice a0 n0 m0,.slice a1 n1 m1,.slice a2 n2 m2,.slice a3 n3 m3] rfl;rw [<-afA] at Y0_ Y1_;have Y2:=Y1_.sets [I_ bQ,I_ JF,I_ ca,I_ cb,I_ cc,.string bg] rfl;have Y3_:=BX.iq (Nat.ne_of_lt su_) [I_ bQ,I_ JF,I_ ca,I_ cb,I_ cc,.string bg] 0 Y0_
  have BF:=dP (Nat.le_of_lt su_) [I_ bQ,I_ JF,I_ ca,I_ cb,I_ cc,.string bg] 0 (dP aW [.slice a0 n0 m0,.slice a1 n1 m1,.slice a2 n2 m2,.slice a3 n3 m3] 0 BU_.o);rw [<-afA] at BF;rw [<-afB] at Y2 Y3_ BF;obtain ⟨d0,d1,d2,d3,d4,d5⟩:=Y1_.c6;have f0:=Y1_.frozen 0;have f1:=Y1_.frozen 1;have f2:=Y1_.frozen 2;have f3:=Y1_.frozen 3;have f4:=Y1_.frozen 4;have f5:=Y1_.frozen 5;have e0:=Y3_.c4;have g0:=Y2.c6;have HY2:=af Y2;have HY3:=af Y3_;have HBF:=af BF;clear Y0_ Y1_ Y2 Y3_ BF YK_ YC_ BU_ Bu1 Bu2;go_wp2_with fail;clear hu1 hu2 p0 q0 q1 q2 q3 d0 d1 d2 d3 d4 d5 f0 f1 f2 f3 f4 f5 e0 g0;obtain ⟨w3,hw3⟩:=nmW HBF;rw [hw3] at HY2 HY3 HBF ⊢;have XK_:=HY3;have XC_:=HY2;have TP:=HBF.o;have Bw:=af (hb.trans (TP.mono hb.size));have HR:=af (fun W (h:Below w3.heap.size w3 W)=>(hk.below TP).below h)
  have Hs:=af hs;have HI:=af (fun W (h:Below w3.heap.size w3 W)=>adb k ⟨bQ,JF,ca,cb,cc,bg⟩ _ _ _ _ W (HR.o W h) hs hnm hcm)
  have HS:=af (fun W (h:Below w3.heap.size w3 W)=>ac9 k ⟨bQ,JF,ca,cb,cc,bg⟩ _ _ _ _ W (HR.o W h) hs hnm)
  have Hnm:=af hnm;have Hcm:=af hcm;obtain ⟨r,hr⟩:=XP (QH k ⟨bQ,JF,ca,cb,cc,bg⟩);have HX:=af hr;rw [hr] at HI HS;unfold dW at HI HS;have B3:=af (Below.refl w3.heap.size w3);clear hs hnm hcm hk hb TP Hr hr hw3 HY2 HY3 HBF;refine (HI.o w3 B3.o).mono ?_;rintro en w4 ⟨_,_,_,_,rfl,hko,hb⟩;obtain ⟨⟨b0,q0,z0,rfl⟩,⟨b1,q1,z1,rfl⟩,⟨b2,q2,z2,rfl⟩,⟨b3,q3,z3,rfl⟩⟩:=hko.sl;obtain ⟨XK_,XC_,Bw,B3⟩:=onK hb XK_ XC_ Bw B3;obtain ⟨w5,hw5⟩:∃ V,w4.alloc (.cells #[.slice b0 q0 z0,.slice b1 q1 z1,.slice b2 q2 z2,.slice b3 q3 z3] 28)=V:=⟨_,rfl⟩;have Bw5:Below w4.heap.size w4 w5:=hw5 ▸ dm;have XO_:=af (show BX w5 w4.heap.size 28 [.slice b0 q0 z0,.slice b1 q1 z1,.slice b2 q2 z2,.slice b3 q3 z3] from hw5 ▸ BX.new w4 _ _);have HO:=af (hko.below Bw5);obtain ⟨XK_,XC_,Bw,B3⟩:=onK Bw5 XK_ XC_ Bw B3;clear hko hb Bw5;have p0:=XK_.o.c4;have c0:=XC_.o.c6
  go_wp2_with fail
  try rw [hw5]
  clear hw5 p0;clear c0;refine (HS.o w5 B3.o).mono ?_;rintro en w6 ⟨_,_,_,_,rfl,hko,hb⟩;obtain ⟨⟨d0,x0,y0,rfl⟩,⟨d1,x1,y1,rfl⟩,⟨d2,x2,y2,rfl⟩,⟨d3,x3,y3,rfl⟩⟩:=hko.sl;obtain ⟨XK_,XC_,Bw,B3⟩:=onK hb XK_ XC_ Bw B3;obtain ⟨XO_,HO⟩:=onO hb XO_ HO;obtain ⟨w7,hw7⟩:∃ V,w6.alloc (.cells #[.slice d0 x0 y0,.slice d1 x1 y1,.slice d2 x2 y2,.slice d3 x3 y3] 28)=V:=⟨_,rfl⟩;have Bw7:Below w6.heap.size w6 w7:=hw7 ▸ dm;have XW_:=af (show BX w7 w6.heap.size 28 [.slice d0 x0 y0,.slice d1 x1 y1,.slice d2 x2 y2,.slice d3 x3 y3] from hw7 ▸ BX.new w6 _ _);have HW:=af (hko.below Bw7);obtain ⟨XK_,XC_,Bw,B3⟩:=onK Bw7 XK_ XC_ Bw B3;obtain ⟨XO_,HO⟩:=onO Bw7 XO_ HO;clear hko hb Bw7 HI HS;have o0:=XO_.o.c4;have t0:=XW_.o.c4;go_wp2_with fail
  try rw [hw7]
  clear hw7 o0;clear t0;refine (adE r.1 _ _ _ _ _ _ _ _ _ HO.o.rk HW.o.rk).mono ?_;rintro en w8 ⟨rfl,hb⟩;obtain ⟨XK_,XC_,Bw,B3⟩:=onK hb XK_ XC_ Bw B3;obtain ⟨XO_,HO⟩:=onO hb XO_ HO;obtain ⟨XW_,HW⟩:=onO hb XW_ HW;clear hb
  by_cases h5:r.2.2=5
  ·have h5b:(r.2.2==5)=true:=by simpa using h5
   clear h5;have c0:=XC_.o.c6;have o0:=XO_.o.c4;have t0:=XW_.o.c4;go_wp2_with fail;refine (adE r.1 _ _ _ _ _ _ _ _ _ HO.o.rk HW.o.rk).mono ?_;rintro en w9 ⟨rfl,hb⟩;obtain ⟨XK_,XC_,Bw,B3⟩:=onK hb XK_ XC_ Bw B3;obtain ⟨XO_,HO⟩:=onO hb XO_ HO;obtain ⟨XW_,HW⟩:=onO hb XW_ HW;clear hb o0;clear t0 c0;go_wp2_with fail;go_ret;exact ⟨rfl,Bw.o⟩
  have h5b:(r.2.2==5)=false:=by simpa using h5
  have H5:=af h5;clear h5;have HP:=af (adQ (k:=k) (c:=⟨bQ,JF,ca,cb,cc,bg⟩) (by rw [HX.o];exact H5.o));have HC:=af (show Kx.cO k ⟨bQ,JF,ca,cb,cc,bg⟩=r from HP.o.2.2.1.symm.trans HX.o);have Yy:=af (nN.1 HP.o.1);have HOr:=af (show Kx.Ok r.1 from nN.1 (by have:=HP.o.2.2.2;rw [HX.o] at this;exact this));have hl3:k.ah.length=3:=Yy.o.e3;have hce:=Kx.ay.1 HP.o.2.1;simp only at hce;obtain ⟨e,rfl⟩:=Int.eq_ofNat_of_zero_le hce.1;have he:e<3:=by omega
  obtain ⟨bk,ok,qk,uk_,ek,lk,yk,sk,rk⟩:=(HR.o w8 B3.o).e.at (k:=e) (by rw [hl3];exact he);obtain ⟨rfl,rfl,rfl⟩:=Za ek;clear ek;have iek:(e:Int)<(k.ah.length:Int):=by rw [hl3];omega
  obtain ⟨am,qm_,em,_,_⟩:=(HR.o w8 B3.o).m.len.2;obtain ⟨rfl,rfl,rfl⟩:=Za em;clear em;obtain ⟨ai,qi_,ei,_,_⟩:=RS.val (HR.o w8 B3.o).i;obtain ⟨rfl,rfl,rfl⟩:=Za ei;clear ei;obtain ⟨an,qn,en,_,_⟩:=HO.o.rk.m.len.2;obtain ⟨rfl,rfl,rfl⟩:=Za en;clear en;obtain ⟨ap,qp_,ep,_,_⟩:=RS.val HO.o.rk.i;obtain ⟨rfl,rfl,rfl⟩:=Za ep;clear ep;have HRm:=af (fun W (h:Below w8.heap.size w8 W)=>HR.o W (B3.o.trans (h.mono B3.o.size)))
  have HS:=af (fun (f:Nat) (h0:(Kx.inf k.ag f).kind≠0) (hm:Kx.may (Kx.au k.ah e).aB (Kx.inf k.ag f).guard=false)=>(show Kx.Sf k r.1 f by have:=Kx.callK_alien Yy.o (c:=⟨bQ,(e:Int),ca,cb,cc,bg⟩) HP.o.2.1 h0 hm;rw [HC.o] at this;exact this))
  have HM:=af (fun g (hg:bT g=true) (hgs:g.size<=9223372036854775807) W (h:Below w8.heap.size w8 W)=>acO (Kx.au k.ah e).aB g uk_ W (rk.below h) (Hs.o.2 e (by rw [hl3];exact he)) (Yy.o.Lm e he) hg hgs)
  have Dc:=af yk;have Hlk:=af lk;clear hl3 hce he sk yk rk lk;have p0:=XK_.o.c4;have c0:=XC_.o.c6;have o0:=XO_.o.c4;go_wp2_with fail;clear p0 c0;clear o0;go_loopw [11] (fun i wr=>∃ j:Nat,i=I_ j/\j<=12/\TI (Below w8.heap.size w8 wr)) (fun i _=>12 - (intOf i).toNat)
  case atStart=>exact ⟨0,rfl,Nat.zero_le _,Below.refl _ _⟩
  case round =>
   obtain ⟨j,rfl,hj,hb⟩:=hrel
   by_cases hlt:j<12
   ·have Q5:(j:Int)<12:=by omega
    have HB:=af hb.o;have QK:=Yy.o.i12;have uk:=Yy.o.m12;have hi12':=HOr.o.i12;have hm12':=HOr.o.m12;have hS:=HS.o j;have jI:=gZ.1 (Yy.o.I8 j hlt);have hsn:=Hs.o.1 _ (ry (show j<k.ag.length by omega));obtain ⟨bi,oi,_,ei,li,yi,si,ri⟩:=bV.at (HRm.o _ hb.o).i (k:=j) (by omega);obtain ⟨rfl,_,rfl⟩:=Za ei;clear ei;obtain ⟨bp,op,_,ep,lp,yp,sp,_⟩:=bV.at (HO.o.below hb.o).rk.i (k:=j) (by omega);obtain ⟨rfl,_,rfl⟩:=Za ep;clear ep;obtain ⟨bm,om,_,um,em,lm,ym,rm⟩:=RM.at (HRm.o _ hb.o).m (k:=j) (by omega);obtain ⟨rfl,_,rfl⟩:=Za em;clear em;obtain ⟨bn,on,_,un,en,ln,yn,rn⟩:=RM.at (HO.o.below hb.o).rk.m (k:=j) (by omega);obtain ⟨rfl,_,rfl⟩:=Za en;clear en;have ij1:(j:Int)<(k.ag.length:Int):=by omega
    have ij2:(j:Int)<(r.1.ag.length:Int):=by omega
    have ij3:(j:Int)<(k.mem.length:Int):=by omega
    have ij4:(j:Int)<(r.1.mem.length:Int):=by omega
    have lk:bk<wr.heap.size:=Nat.lt_of_lt_of_le Hlk.o hb.o.size;have yk:wr.cell? ⟨bk,ok+e*2,none⟩=some uk_:=(hb.o.cell (p:=⟨bk,ok+e*2,none⟩) Hlk.o).trans Dc.o;clear QK uk hi12' hm12';obtain ⟨kd,hkd⟩:∃ x,(Kx.inf k.ag j).kind=x:=⟨_,rfl⟩;obtain ⟨gd,hgd⟩:∃ x,(Kx.inf k.ag j).guard=x:=⟨_,rfl⟩;obtain ⟨rf,hrf⟩:∃ x,(Kx.inf k.ag j).refs=x:=⟨_,rfl⟩;obtain ⟨kd2,hkd2⟩:∃ x,(Kx.inf r.1.ag j).kind=x:=⟨_,rfl⟩;obtain ⟨gd2,hgd2⟩:∃ x,(Kx.inf r.1.ag j).guard=x:=⟨_,rfl⟩;unfold Kx.Sf at hS;have hrg:kd≠0->bT gd=true:=fun h=>by
     rcases jI with h1 | h1
     ·rw [h1] at hkd;exact absurd hkd.symm h
     rw [<-hgd];exact h1.2.2.1
    rw [hkd] at yi hS;rw [hgd] at si hS hsn;rw [hrf] at ri;rw [hkd2] at yp hS;rw [hgd2] at sp hS;clear jI hkd hgd hrf hkd2 hgd2;obtain ⟨w9,JX⟩:∃ V,wr.alloc (.cells #[I_ kd,.string gd,I_ rf] 37)=V:=⟨_,rfl⟩;have B9:=af (show Below wr.heap.size wr w9 from JX ▸ dm);have XX_:=af (show BX w9 wr.heap.size 37 [I_ kd,.string gd,I_ rf] from JX ▸ BX.new wr _ _);have k1:=(XK_.o.below hb.o).cell 1;simp only [List.getElem?_cons_zero,List.getElem?_cons_succ] at k1;have XK':=af (XK_.o.below (hb.o.trans (B9.o.mono hb.o.size)));have XO':=af (XO_.o.below (hb.o.trans (B9.o.mono hb.o.size)));have XC':=af (XC_.o.below (hb.o.trans (B9.o.mono hb.o.size)));have yk':=(B9.o.cell (p:=⟨bk,ok+e*2,none⟩) lk).trans yk;have lk':bk<w9.heap.size:=Nat.lt_of_lt_of_le lk B9.o.size
    have ym':=(B9.o.cell (p:=⟨bm,om+j,none⟩) lm).trans ym;have lm':bm<w9.heap.size:=Nat.lt_of_lt_of_le lm B9.o.size;have yn':=(B9.o.cell (p:=⟨bn,on+j,none⟩) ln).trans yn;have ln':bn<w9.heap.size:=Nat.lt_of_lt_of_le ln B9.o.size;have yp':=(B9.o.cell (p:=⟨bp,op+j*3,none⟩) lp).trans yp;have lp':bp<w9.heap.size:=Nat.lt_of_lt_of_le lp B9.o.size;have sp':=(B9.o.cell (p:=⟨bp,op+j*3+1,none⟩) lp).trans sp;have lp':bp<w9.heap.size:=Nat.lt_of_lt_of_le lp B9.o.size
    have IK_:=af (show ∀ W,Below w9.heap.size w9 W->(W.cell? ⟨wr.heap.size,0,none⟩=some (I_ kd)/\W.cell? ⟨wr.heap.size,1,none⟩=some (.string gd)/\W.cell? ⟨w1.heap.size,0,none⟩=some (.slice (some ⟨bm,om,none⟩) k.mem.length m0)/\W.cell? ⟨w1.heap.size,1,none⟩=some (.slice (some ⟨bi,oi,none⟩) k.ag.length m1)/\W.cell? ⟨w1.heap.size,2,none⟩=some (.slice (some ⟨bk,ok,none⟩) k.ah.length m2)/\W.cell? ⟨u1.heap.size,1,none⟩=some (I_ (e:Int))/\W.cell? ⟨w4.heap.size,0,none⟩=some (.slice (some ⟨bn,on,none⟩) r.1.mem.length z0)/\W.cell? ⟨w4.heap.size,1,none⟩=some (.slice (some ⟨bp,op,none⟩) r.1.ag.length z1)/\W.cell? ⟨bk,ok+e*2,none⟩=some uk_/\W.cell? ⟨bm,om+j,none⟩=some um/\W.cell? ⟨bn,on+j,none⟩=some un/\W.cell? ⟨bp,op+j*3,none⟩=some (I_ kd2)/\W.cell? ⟨bp,op+j*3+1,none⟩=some (.string gd2)) from fun W h=>⟨(XX_.o.below h).cell 0,(XX_.o.below h).cell 1,(XK'.o.below h).cell 0,(XK'.o.below h).cell 1,(XK'.o.below h).cell 2,(XC'.o.below h).cell 1,(XO'.o.below h).cell 0,(XO'.o.below h).cell 1,(h.cell (p:=⟨bk,ok+e*2,none⟩) lk').trans yk',(h.cell (p:=⟨bm,om+j,none⟩) lm').trans ym',(h.cell (p:=⟨bn,on+j,none⟩) ln').trans yn',(h.cell (p:=⟨bp,op+j*3,none⟩) lp').trans yp',(h.cell (p:=⟨bp,op+j*3+1,none⟩) lp').trans sp'⟩)
    have HB9:=af (hb.o.trans (B9.o.mono hb.o.size));have Rm:=af (rm.below B9.o);have Rn_:=af (rn.below B9.o);clear yk' lk' ym' lm' yn' ln' yp' lp' sp' yk ym yn yp sp lk lm ln lp rm rn;have hb8:=Below.refl w9.heap.size w9;go_wp2_with fail
    try rw [JX]
    clear JX k1 yi si ri li
    by_cases hk0:kd=0
    ·have hkb:(kd != 0)=false:=by simp [hk0]
     clear hS hrg hk0;have hS0:=IK_.o _ (Below.bz hb8);refine afi IK_ fun hHeld=>?_
     clear hS0;refine afW 0 ?_;refine afW 8 ?_;refine afW 16 ?_;refine afW 24 ?_;refine afW 32 ?_;refine afW 40 ?_;refine afV 48 ?_;refine wpAnyH_done (by kernel_rfl) ?_ _;go_wp2_with fail;go_roundw
     case rel=>exact ⟨j+1,by go_num,by omega,HB9.o.trans ((Below.bz hb8).mono HB9.o.size)⟩
     case measure=>simp [intOf];omega
    have hkb:(kd != 0)=true:=by simpa using hk0
    have HMy:=af (fun W (h:Below w9.heap.size w9 W)=>HM.o gd (hrg hk0) hsn W (HB9.o.trans (h.mono HB9.o.size)))
    cases wR:Kx.may (Kx.au k.ah e).aB gd with
    | true =>
     have Hmy:=af wR;clear hS hrg hk0 wR;have hS0:=IK_.o _ (Below.bz hb8);refine afi IK_ fun hHeld=>?_
     clear hS0;refine afW 0 ?_;refine afV 8 ?_;refine ac' 12 ?_;refine ahk 13 fun K hK=>?_
     (go_simp;go_at_call 19;refine (HMy.o _ (Below.bz hb8)).mono ?_;rintro en w10 ⟨rfl,hb⟩;have hb9:=hb8.trans ((Below.gG hb).mono hb8.size);clear hb;have hS9:=IK_.o w10 hb9;rw [Hmy.o];go_wp2_with fail)
     refine afS hK fun hHeld=>?_
     clear hK K;refine afW 14 ?_;refine afW 22 ?_;refine afW 30 ?_;refine afW 38 ?_;refine afV 46 ?_;refine afU 50 ?_;refine wpAnyH_done (by kernel_rfl) ?_ _;go_wp2_with fail;go_roundw
     case rel=>exact ⟨j+1,by go_num,by omega,HB9.o.trans ((hb9).mono HB9.o.size)⟩
     case measure=>simp [intOf];omega
    | false =>
     have Hmy:=af wR;obtain ⟨hs1,hs2,hs3⟩:=hS hk0 wR;subst hs2 hs3;rw [hs1] at Rn_;clear hS hrg hk0 wR hs1;have hS0:=IK_.o _ (Below.bz hb8);refine afi IK_ fun hHeld=>?_
     clear hS0;refine afW 0 ?_;refine afV 8 ?_;refine ac' 12 ?_;refine ahk 13 fun K hK=>?_
     (go_simp;go_at_call 19;refine (HMy.o _ (Below.bz hb8)).mono ?_;rintro en w10 ⟨rfl,hb⟩;have hb9:=hb8.trans ((Below.gG hb).mono hb8.size);clear hb;have hS9:=IK_.o w10 hb9;rw [Hmy.o];go_wp2_with fail)
     refine afS hK fun hHeld=>?_
     clear hK K;refine afW 14 ?_;refine afV 22 ?_;refine ac' 26 ?_;refine ahk 27 fun K hK=>?_
     (go_simp;go_at_call 20;refine (QB (Kx.row k.mem j) (Kx.row k.mem j) _ _ w10 (Rn_.o.below hb9) (Rm.o.below hb9)).mono ?_;rintro en UR ⟨rfl,hb⟩;have ach:=hb9.trans ((hb).mono hb9.size);clear hb;have hS10:=IK_.o UR ach;rw [decide_eq_true (rfl:Kx.row k.mem j=Kx.row k.mem j)];go_wp2_with fail)
     refine afS hK fun hHeld=>?_
     clear hK K;refine afW 28 ?_;refine afW 36 ?_;refine afW 44 ?_;refine wpAnyH_done (by kernel_rfl) ?_ _;go_wp2_with fail;go_roundw
     case rel=>exact ⟨j+1,by go_num,by omega,HB9.o.trans ((ach).mono HB9.o.size)⟩
     case measure=>simp [intOf];omega
   obtain rfl:j=12:=by omega
   go_wp2_with fail;go_ret;exact ⟨rfl,Bw.o.trans (hb.o.mono Bw.o.size)⟩
 have hI0:(1048576:Int)<(len0:Int):=by omega
 clear h0;go_enter func3,ntmps3;go_wp2_with fail;go_ret;exact ⟨rfl,Below.refl _ _⟩
theorem qIn:(Rows.fnCallAlienRow.inPlace==Tryz.pinned.checked.prog.inPlace 3)=true:=by kernel_rfl
theorem qUn:(Rows.fnCallAlienRow.unfollowed==Tryz.pinned.checked.prog.unfollowed 3)=true:=by kernel_rfl
theorem qRe:(Rows.fnCallAlienRow.recurses==Tryz.pinned.checked.prog.recurses 3)=true:=by kernel_rfl
theorem qNa:(Rows.fnCallAlienRow.named==Tryz.pinned.checked.prog.varsNamed 3)=true:=by kernel_rfl
end Go.Proofs.YtmmjmckajcfffaaGreatDoor
