/- The law FnLoadCache: a translation is remembered. (printed by klc.py) -/
import Derived.Test.YtmmjmckajcfffaaGreatDoorKMn
set_option linter.all false
set_option maxHeartbeats 8000000
set_option maxRecDepth 100000
open Go.Proofs.Tryz
namespace Go.Proofs.YtmmjmckajcfffaaGreatDoor
open Go.RowKit Kx

theorem nmW {B:Nat} {w W:World} (_h:TI (Below B w W)):∃ V,W=V:=⟨_,rfl⟩
theorem onK {W V u v:World} {g h s t:Nat} {l m:List Value} (d:Below W.heap.size W V) (K:TI (BX W g s l)) (C:TI (BX W h t m)) (B:TI (Below u.heap.size u W)) (D:TI (Below v.heap.size v W)):TI (BX V g s l)/\TI (BX V h t m)/\TI (Below u.heap.size u V)/\TI (Below v.heap.size v V):=⟨K.o.below d,C.o.below d,B.o.trans (d.mono B.o.size),D.o.trans (d.mono D.o.size)⟩
theorem onO {W V:World} {g s b:Nat} {l:List Value} {um ui ue uc:Value} {k:Kx.Kernel} (d:Below W.heap.size W V) (K:TI (BX W g s l)) (H:TI (KO W b um ui ue uc k)):TI (BX V g s l)/\TI (KO V b um ui ue uc k):=⟨K.o.below d,H.o.below d⟩
theorem ac' {P:Program} {ops:Array Oper} {Q:Exit->Act->World->Prop} {md:Region.Mode} {S:World->Prop} {o1:Oper} {v1:Value} {fuel:Nat} {listed l1:Array Bool} {a a1:Act} {w:World} (i:Nat) (h:wpAnyH P md ops Q S fuel l1 a1 w) (hS:S w:=by assumption) (h1:Stp P md ops Q S i o1 v1 listed l1 a a1:=by exact stp):wpAnyH P md ops Q S (fuel+1) listed a w:=h1.go hS h
theorem boxCall:Box? 30:=⟨by decide,by decide,by decide,by decide,by decide,by decide⟩
theorem CacheFind_c (c:List Kx.Cached) (e p:Int) (i:Nat) (v:Value) (w:World) (h:dZ w v c) (hc:dA c=true) (hi:Kx.iW c e p=some i) (hil:i<c.length) :
  Calls prog 32 #[v,I_ e,I_ p] w fun en w'=>(∃ y:Kx.Cached,en=.returned (.tuple #[.agg #[I_ y.env,I_ y.page,I_ y.frame,.bool y.write],.bool true]))/\Below w.heap.size w w':=by
 obtain ⟨w0,hw0⟩:=XP (w.alloc (.cells #[I_ 0,I_ 0,I_ 0,.bool false] 60));have B0:=af (show Below w.heap.size w w0 from hw0 ▸ dm);have X0:=af (show BX w0 w.heap.size 60 [I_ 0,I_ 0,I_ 0,.bool false] from (hw0 ▸ BX.new w _ _:BX w0 _ _ _));obtain ⟨b,off,cap,rfl,_⟩:=dZ.at h hil;have HC:=af (RS.below h B0.o);have Hc:=af hc;have Hi:=af (show xM c e p=(i:Int) by unfold xM;rw [hi]);have hneg:decide ((i:Int)<0)=false:=by simp
 have hilI:(i:Int)<(c.length:Int):=by omega
 have ES:=af hil;clear h hc hi hil;go_enter func32,ntmps32;go_wp2_with fail;clear hw0;refine (uZ c _ _ HC.o).mono ?_;rintro en w1 ⟨rfl,hb⟩;rw [Hc.o];replace B0:=af (B0.o.trans (hb.mono B0.o.size));replace X0:=af (X0.o.below hb);replace HC:=af (RS.below HC.o hb);clear hb;go_wp2_with fail;refine (EQ c e p _ _ HC.o).mono ?_;rintro en w2 ⟨rfl,hb⟩;rw [Hi.o];replace B0:=af (B0.o.trans (hb.mono B0.o.size));replace X0:=af (X0.o.below hb);replace HC:=af (RS.below HC.o hb);clear hb;obtain ⟨b2,mP,cap2,ev,_,g0,g1,g2,g3⟩:=dZ.at HC.o ES.o;obtain ⟨⟨rfl,rfl,_⟩,_,rfl⟩:=Zb ev;clear ev;generalize c.getD i Kx.Cached.zero=y at g0 g1 g2 g3;obtain ⟨ye,yp,yf,yw_⟩:=y;simp only at g0 g1 g2 g3;have z0:=X0.o.f4;have k0:=X0.o.c4
 have HZ:=af ((((X0.o.set 0 (I_ ye)).set 1 (I_ yp)).set 2 (I_ yf)).set 3 (.bool yw_));have HB:=af ((((B0.o.setCell (p:=⟨w.heap.size,0,none⟩) aW (I_ ye)).setCell (p:=⟨w.heap.size,1,none⟩) aW (I_ yp)).setCell (p:=⟨w.heap.size,2,none⟩) aW (I_ yf)).setCell (p:=⟨w.heap.size,3,none⟩) aW (.bool yw_));go_wp2_with fail;have e0:=HZ.o.cell 0;have e1:=HZ.o.cell 1;have e2:=HZ.o.cell 2;have e3:=HZ.o.cell 3;simp only [List.set_cons_zero,List.set_cons_succ,List.getElem?_cons_zero,List.getElem?_cons_succ] at e0 e1 e2 e3;refine af7 (by simp [results,results32,go_sem,e0,e1,e2,e3]<;>rfl) ?_;exact ⟨⟨⟨ye,yp,yf,yw_⟩,rfl⟩,HB.o⟩
end Go.Proofs.YtmmjmckajcfffaaGreatDoor
namespace Kx
theorem IL {k:Kernel} (hk:Ok k) {c:Call} (hkd:c.kind=10\/c.kind=11):∃ ca:List Cached,
  cO k c=(if bK c.a 0 63=true/\0<=(au k.ah c.env.toNat).root/\(c.kind=11->bK c.b 0 9999=true)/\(walk k.mem (au k.ah c.env.toNat).root.toNat c.a.toNat).2=0 then
   (if c.kind=11 then (if (walk k.mem (au k.ah c.env.toNat).root.toNat c.a.toNat).1.2.2=false then (k,0,1) else ({ k with cache:=ca,mem:=bG k.mem (walk k.mem (au k.ah c.env.toNat).root.toNat c.a.toNat).1.1.toNat (c.a % 4).toNat c.b },0,0))
    else ({ k with cache:=ca },word k.mem (walk k.mem (au k.ah c.env.toNat).root.toNat c.a.toNat).1.1.toNat (c.a % 4).toNat,0)) else (k,0,3)) /\
  ((walk k.mem (au k.ah c.env.toNat).root.toNat c.a.toNat).2=0->bK c.a 0 63=true->ca=je k c (walk k.mem (au k.ah c.env.toNat).root.toNat c.a.toNat).1.1 (walk k.mem (au k.ah c.env.toNat).root.toNat c.a.toNat).1.2.2):=by
 refine ⟨je k c (walk k.mem (au k.ah c.env.toNat).root.toNat c.a.toNat).1.1 (walk k.mem (au k.ah c.env.toNat).root.toNat c.a.toNat).1.2.2,?_,fun _ _=>rfl⟩
 have e2:qm k c=access k c:=by rcases hkd with h | h <;> simp [qm,h]
 have key:access k c=(if bK c.a 0 63=true/\0<=(au k.ah c.env.toNat).root/\(c.kind=11->bK c.b 0 9999=true)/\(walk k.mem (au k.ah c.env.toNat).root.toNat c.a.toNat).2=0 then
   (if c.kind=11 then (if (walk k.mem (au k.ah c.env.toNat).root.toNat c.a.toNat).1.2.2=false then (k,0,1) else ({ k with cache:=je k c (walk k.mem (au k.ah c.env.toNat).root.toNat c.a.toNat).1.1 (walk k.mem (au k.ah c.env.toNat).root.toNat c.a.toNat).1.2.2,mem:=bG k.mem (walk k.mem (au k.ah c.env.toNat).root.toNat c.a.toNat).1.1.toNat (c.a % 4).toNat c.b },0,0))
    else ({ k with cache:=je k c (walk k.mem (au k.ah c.env.toNat).root.toNat c.a.toNat).1.1 (walk k.mem (au k.ah c.env.toNat).root.toNat c.a.toNat).1.2.2 },word k.mem (walk k.mem (au k.ah c.env.toNat).root.toNat c.a.toNat).1.1.toNat (c.a % 4).toNat,0)) else (k,0,3)):=by
  unfold access;split
  ·rename_i hb
   rw [if_neg];rintro ⟨h1,h2,h3,_⟩;rw [h1] at hb;simp only [Bool.not_true,Bool.false_or,Bool.or_eq_true,decide_eq_true_eq,Bool.and_eq_true,beq_iff_eq,Bool.not_eq_true'] at hb;rcases hb with hb | hb
   ·omega
   rw [h3 hb.1] at hb;cases hb.2
  rename_i hb
  simp only [Bool.or_eq_true,Bool.not_eq_true',decide_eq_true_eq,Bool.and_eq_true,beq_iff_eq,not_or,Bool.not_eq_false] at hb;obtain ⟨⟨ha,hr⟩,hv⟩:=hb;have hp:=hk.place (env:=c.env) ha;generalize placeOf k c.env c.a=P at hp ⊢;obtain ⟨⟨g,w⟩,code⟩:=P;simp only at hp ⊢
  by_cases hc:code=0
  ·obtain ⟨rfl,rfl⟩:=Prod.ext_iff.1 (hp.2 hc);simp only at *;have hbig:bK c.a 0 63=true/\0<=(au k.ah c.env.toNat).root/\(c.kind=11->bK c.b 0 9999=true)/\(walk k.mem (au k.ah c.env.toNat).root.toNat c.a.toNat).2=0:=
    ⟨ha,by omega,fun h=>by
     cases hy:bK c.b 0 9999 with
     | true=>rfl
     | false=>exact absurd ⟨h,hy⟩ hv,by rw [<-hp.1];exact hc⟩
   have hc':¬(code≠0):=by simpa using hc
   rw [if_neg hc',if_pos hbig]
   by_cases h11:c.kind=11
   ·cases hw:(walk k.mem (au k.ah c.env.toNat).root.toNat c.a.toNat).1.2.2 <;> simp [h11,hw]
   simp [h11]
  rw [if_pos hc,if_neg (fun h=>hc (by rw [hp.1];exact h.2.2.2))]
 unfold cO;rw [e2,key]
 by_cases hA:bK c.a 0 63=true/\0<=(au k.ah c.env.toNat).root/\(c.kind=11->bK c.b 0 9999=true)/\(walk k.mem (au k.ah c.env.toNat).root.toNat c.a.toNat).2=0
 ·rw [if_pos hA]
  by_cases h11:c.kind=11
  ·rw [if_pos h11]
   by_cases hw:(walk k.mem (au k.ah c.env.toNat).root.toNat c.a.toNat).1.2.2=false
   ·rw [if_pos hw];simp
   rw [if_neg hw];simp
  rw [if_neg h11];simp
 rw [if_neg hA];simp
theorem callK_done {k:Kernel} {c:Call} (h:(cO k c).2.2=0):qm k c=cO k c:=by
 unfold cO at *;split
 ·rename_i h1;rw [if_pos h1] at h;exact absurd h h1
 rfl
theorem kcall_ok {k:Kernel} (hk:Ok k) {c:Call} (he:bK c.env 0 2=true):QH k c=cO k c:=by
 unfold QH;rw [nN.2 hk,he];rfl
theorem cfind_acc (k:Kernel) (c:Call) (f:Int) (w:Bool):∃ i,iW (je k c f w) c.env (c.a / 4)=some i:=by
 unfold je
 cases h:iW k.cache c.env (c.a / 4) with
 | some i=>exact ⟨i,h⟩
 | none =>
  simp only
  cases h':iW (qp k.cache ⟨c.env,c.a / 4,f,w⟩) c.env (c.a / 4) with
  | some i=>exact ⟨i,rfl⟩
  | none =>
   unfold iW at h';rw [List.findIdx?_eq_none_iff] at h';obtain ⟨o,o',_,_,e⟩:=GL k.cache ⟨c.env,c.a / 4,f,w⟩;have:=h' ⟨c.env,c.a / 4,f,w⟩ (by rw [e];simp);simp at this
theorem access_parts {k:Kernel} (hk:Ok k) {c:Call} (he:bK c.env 0 2=true) (hkd:c.kind=10\/c.kind=11) (h:(cO k c).2.2=0) :
  bK c.a 0 63=true/\0<=(au k.ah c.env.toNat).root/\(c.kind=11->bK c.b 0 9999=true)/\(walk k.mem (au k.ah c.env.toNat).root.toNat c.a.toNat).2=0/\(cO k c).1.ah=k.ah/\(cO k c).1.ag=k.ag /\
  (cO k c).1.cache=je k c (walk k.mem (au k.ah c.env.toNat).root.toNat c.a.toNat).1.1 (walk k.mem (au k.ah c.env.toNat).root.toNat c.a.toNat).1.2.2 /\
  (c.kind=11->(walk k.mem (au k.ah c.env.toNat).root.toNat c.a.toNat).1.2.2=true/\(cO k c).1.mem=bG k.mem (walk k.mem (au k.ah c.env.toNat).root.toNat c.a.toNat).1.1.toNat (c.a % 4).toNat c.b):=by
 obtain ⟨ca,h1,h2⟩:=IL hk hkd;rw [h1] at h ⊢
 by_cases hA:bK c.a 0 63=true/\0<=(au k.ah c.env.toNat).root/\(c.kind=11->bK c.b 0 9999=true)/\(walk k.mem (au k.ah c.env.toNat).root.toNat c.a.toNat).2=0
 ·rw [if_pos hA] at h ⊢;have hca:=h2 hA.2.2.2 hA.1;refine ⟨hA.1,hA.2.1,hA.2.2.1,hA.2.2.2,?_⟩
  by_cases h11:c.kind=11
  ·rw [if_pos h11] at h ⊢
   by_cases hw:(walk k.mem (au k.ah c.env.toNat).root.toNat c.a.toNat).1.2.2=false
   ·rw [if_pos hw] at h;exact absurd h (by simp)
   rw [if_neg hw];exact ⟨rfl,rfl,hca,fun _=>⟨by simpa using hw,rfl⟩⟩
  rw [if_neg h11];exact ⟨rfl,rfl,hca,fun h=>absurd h h11⟩
 rw [if_neg hA] at h;exact absurd h (by simp)
theorem load_again {k:Kernel} (hk:Ok k) {c:Call} (he:bK c.env 0 2=true) (hkd:c.kind=10\/c.kind=11) (h:(cO k c).2.2=0) :
  bK c.a 0 63=true/\(∃ i,iW (cO k c).1.cache c.env (c.a / 4)=some i)/\(QH (cO k c).1 ⟨10,c.env,c.a,c.b,c.c,c.name⟩).1=(cO k c).1/\(QH (cO k c).1 ⟨10,c.env,c.a,c.b,c.c,c.name⟩).2.2=0:=by
 have hr:=hk.cO c he;obtain ⟨ha,hroot,_,hw,henv,NL,hc,_⟩:=access_parts hk he hkd h;have hf:∃ i,iW (cO k c).1.cache c.env (c.a / 4)=some i:=by rw [hc];exact cfind_acc _ _ _ _
 refine ⟨ha,hf,?_⟩;rw [kcall_ok hr (c:=⟨10,c.env,c.a,c.b,c.c,c.name⟩) he];rw [<-henv] at hroot;clear hc hw henv NL h hkd;generalize (cO k c).1=r at *;obtain ⟨i,hi⟩:=hf;have hp:placeOf r c.env c.a=(((r.cache.getD i Cached.zero).frame,(r.cache.getD i Cached.zero).write),0):=by unfold placeOf;rw [hi]
 have hac:∀ f w,je r ⟨10,c.env,c.a,c.b,c.c,c.name⟩ f w=r.cache:=fun f w=>by unfold je;simp only;rw [hi]
 have hroot':decide ((au r.ah c.env.toNat).root<0)=false:=decide_eq_false (by omega);have key:access r ⟨10,c.env,c.a,c.b,c.c,c.name⟩=(r,word r.mem (r.cache.getD i Cached.zero).frame.toNat (c.a % 4).toNat,0):=by
  unfold access;simp only;rw [ha,hroot',hp];simp [hac]
 have e2:qm r ⟨10,c.env,c.a,c.b,c.c,c.name⟩=access r ⟨10,c.env,c.a,c.b,c.c,c.name⟩:=by simp [qm]
 unfold cO;rw [e2,key];simp
end Kx
namespace Go.Proofs.YtmmjmckajcfffaaGreatDoor
open Go.RowKit Kx

theorem FnLoadCache_c (a:Option Addr) (len0 cap0:Nat) (zr:List Int) (w:World) (h0:abT .u8 w a len0 cap0 zr) :
  Calls prog 10 #[.slice a len0 cap0] w (aez w):=by
 by_cases hl0:len0<=1048576
 ·have hI0:¬ (1048576:Int)<(len0:Int):=by omega
  have Hr:=af (abT.rb h0);clear h0;go_enter func10,ntmps10;go_wp2_with fail;clear hI0;refine (adi _ _ _ Hr.o).mono ?_;rintro en w1 ⟨k,⟨bQ,JF,ca,cb,cc,bg⟩,_,_,_,_,rfl,hsl,hs,hnm,hcm,hk,hb⟩;obtain ⟨⟨a0,n0,m0,rfl⟩,⟨a1,n1,m1,rfl⟩,⟨a2,n2,m2,rfl⟩,⟨a3,n3,m3,rfl⟩⟩:=hsl;unfold dW;obtain ⟨u1,hu1⟩:∃ V,w1.alloc (.cells #[.slice none 0 0,.slice none 0 0,.slice none 0 0,.slice none 0 0] 28)=V:=⟨_,rfl⟩;obtain ⟨u2,hu2⟩:∃ V,u1.alloc (.cells #[I_ 0,I_ 0,I_ 0,I_ 0,I_ 0,.string ⟨#[]⟩] 30)=V:=⟨_,rfl⟩;have Bu1:Below w1.heap.size w1 u1:=hu1 ▸ dm;have Bu2:Below u1.heap.size u1 u2:=hu2 ▸ dm;have su_:w1.heap.size<u1.heap.size:=by rw [<-hu1];simp
  have YK_:=af (show BX u2 w1.heap.size 28 [.slice none 0 0,.slice none 0 0,.slice none 0 0,.slice none 0 0] from (hu1 ▸ BX.new w1 _ _:BX u1 _ _ _).below Bu2);have YC_:=af (show BX u2 u1.heap.size 30 [I_ 0,I_ 0,I_ 0,I_ 0,I_ 0,.string ⟨#[]⟩] from hu2 ▸ BX.new u1 _ _);have BU_:=af (Bu1.trans (Bu2.mono Bu1.size));have p0:=YK_.o.c4;obtain ⟨q0,q1,q2,q3⟩:=YK_.o.f4;have Y1_:=BX.iq (Nat.ne_of_gt su_) [.slice a0 n0 m0,.slice a1 n1 m1,.slice a2 n2 m2,.slice a3 n3 m3] 0 YC_.o;have Y0_:=YK_.o.sets [.slice a0 n0 m0,.slice a1 n1 m1,.slice a2 n2 m2,.slice a3 n3 m3] rfl;rw [<-afA] at Y0_ Y1_;have Y2:=Y1_.sets [I_ bQ,I_ JF,I_ ca,I_ cb,I_ cc,.string bg] rfl;have Y3_:=BX.iq (Nat.ne_of_lt su_) [I_ bQ,I_ JF,I_ ca,I_ cb,I_ cc,.string bg] 0 Y0_
  have BF:=dP (Nat.le_of_lt su_) [I_ bQ,I_ JF,I_ ca,I_ cb,I_ cc,.string bg] 0 (dP aW [.slice a0 n0 m0,.slice a1 n1 m1,.slice a2 n2 m2,.slice a3 n3 m3] 0 BU_.o);rw [<-afA] at BF;rw [<-afB] at Y2 Y3_ BF;obtain ⟨d0,d1,d2,d3,d4,d5⟩:=Y1_.c6;have f0:=Y1_.frozen 0;have f1:=Y1_.frozen 1;have f2:=Y1_.frozen 2;have f3:=Y1_.frozen 3;have f4:=Y1_.frozen 4;have f5:=Y1_.frozen 5;obtain ⟨e0,e1,e2,e3⟩:=Y3_.c4;have g0:=Y2.c6;have HY2:=af Y2;have HY3:=af Y3_;have HBF:=af BF;clear Y0_ Y1_ Y2 Y3_ BF YK_ YC_ BU_ Bu1 Bu2;go_wp2_with fail;clear hu1 hu2 p0 q0 q1 q2 q3 d0 d1 d2 d3 d4 d5 f0 f1 f2 f3 f4 f5 e0 e1 e2 e3 g0;obtain ⟨w3,hw3⟩:=nmW HBF;rw [hw3] at HY2 HY3 HBF ⊢;have XK_:=HY3;have XC_:=HY2;have TP:=HBF.o;have Bw:=af (hb.trans (TP.mono hb.size));have HR:=af (fun W (h:Below w3.heap.size w3 W)=>(hk.below TP).below h)
  have Hs:=af hs;have HI:=af (fun W (h:Below w3.heap.size w3 W)=>adb k ⟨bQ,JF,ca,cb,cc,bg⟩ _ _ _ _ W (HR.o W h) hs hnm hcm)
  have HS:=af (fun W (h:Below w3.heap.size w3 W)=>ac9 k ⟨bQ,JF,ca,cb,cc,bg⟩ _ _ _ _ W (HR.o W h) hs hnm)
  have Hnm:=af hnm;have Hcm:=af hcm;obtain ⟨r,hr⟩:=XP (Kx.QH k ⟨bQ,JF,ca,cb,cc,bg⟩);have HX:=af hr;rw [hr] at HI HS;unfold dW at HI HS;have B3:=af (Below.refl w3.heap.size w3);have Hu1:=af (show w.heap.size<=u1.heap.size from Nat.le_trans hb.size (Nat.le_of_lt su_));clear hs hnm hcm hk hb TP Hr hr hw3 HY2 HY3 HBF;refine (HI.o w3 B3.o).mono ?_;rintro en w4 ⟨_,_,_,_,rfl,hko,hb⟩;obtain ⟨⟨b0,q0,z0,rfl⟩,⟨b1,q1,z1,rfl⟩,⟨b2,q2,z2,rfl⟩,⟨b3,q3,z3,rfl⟩⟩:=hko.sl;obtain ⟨XK_,XC_,Bw,B3⟩:=onK hb XK_ XC_ Bw B3;obtain ⟨w5,hw5⟩:∃ V,w4.alloc (.cells #[.slice b0 q0 z0,.slice b1 q1 z1,.slice b2 q2 z2,.slice b3 q3 z3] 28)=V:=⟨_,rfl⟩;have Bw5:Below w4.heap.size w4 w5:=hw5 ▸ dm;have XO_:=af (show BX w5 w4.heap.size 28 [.slice b0 q0 z0,.slice b1 q1 z1,.slice b2 q2 z2,.slice b3 q3 z3] from hw5 ▸ BX.new w4 _ _);have HO:=af (hko.below Bw5)
  obtain ⟨XK_,XC_,Bw,B3⟩:=onK Bw5 XK_ XC_ Bw B3;clear hko hb Bw5;have p0:=XK_.o.c4;have c0:=XC_.o.c6;go_wp2_with fail
  try rw [hw5]
  clear hw5 p0;clear c0;refine (HS.o w5 B3.o).mono ?_;rintro en w6 ⟨_,_,_,_,rfl,hko,hb⟩;obtain ⟨⟨d0,x0,y0,rfl⟩,⟨d1,x1,y1,rfl⟩,⟨d2,x2,y2,rfl⟩,⟨d3,x3,y3,rfl⟩⟩:=hko.sl;obtain ⟨XK_,XC_,Bw,B3⟩:=onK hb XK_ XC_ Bw B3;obtain ⟨XO_,HO⟩:=onO hb XO_ HO;obtain ⟨w7,hw7⟩:∃ V,w6.alloc (.cells #[.slice d0 x0 y0,.slice d1 x1 y1,.slice d2 x2 y2,.slice d3 x3 y3] 28)=V:=⟨_,rfl⟩;have Bw7:Below w6.heap.size w6 w7:=hw7 ▸ dm;have XW_:=af (show BX w7 w6.heap.size 28 [.slice d0 x0 y0,.slice d1 x1 y1,.slice d2 x2 y2,.slice d3 x3 y3] from hw7 ▸ BX.new w6 _ _);have HW:=af (hko.below Bw7);obtain ⟨XK_,XC_,Bw,B3⟩:=onK Bw7 XK_ XC_ Bw B3;obtain ⟨XO_,HO⟩:=onO Bw7 XO_ HO;clear hko hb Bw7 HI HS;have o0:=XO_.o.c4;have t0:=XW_.o.c4;go_wp2_with fail
  try rw [hw7]
  clear hw7 o0;clear t0;refine (adE r.1 _ _ _ _ _ _ _ _ _ HO.o.rk HW.o.rk).mono ?_;rintro en w8 ⟨rfl,hb⟩;obtain ⟨XK_,XC_,Bw,B3⟩:=onK hb XK_ XC_ Bw B3;obtain ⟨XO_,HO⟩:=onO hb XO_ HO;obtain ⟨XW_,HW⟩:=onO hb XW_ HW;clear hb
  by_cases h5:r.2.2=5
  ·have h5b:(r.2.2==5)=true:=by simpa using h5
   clear h5;have c0:=XC_.o.c6;have o0:=XO_.o.c4;have t0:=XW_.o.c4;go_wp2_with fail;refine (adE r.1 _ _ _ _ _ _ _ _ _ HO.o.rk HW.o.rk).mono ?_;rintro en w9 ⟨rfl,hb⟩;obtain ⟨XK_,XC_,Bw,B3⟩:=onK hb XK_ XC_ Bw B3;obtain ⟨XO_,HO⟩:=onO hb XO_ HO;obtain ⟨XW_,HW⟩:=onO hb XW_ HW;clear hb o0;clear t0 c0;go_wp2_with fail;go_ret;exact ⟨rfl,Bw.o⟩
  have h5b:(r.2.2==5)=false:=by simpa using h5
  have H5:=af h5;clear h5
  by_cases hd:r.2.2=0
  case neg =>
   have hdb:(r.2.2 != 0)=true:=by simpa using hd
   clear hd;have c0:=XC_.o.c6;have o0:=XO_.o.c4;have t0:=XW_.o.c4;go_wp2_with fail;refine (adE r.1 _ _ _ _ _ _ _ _ _ HO.o.rk HW.o.rk).mono ?_;rintro en w9 ⟨rfl,hb⟩;obtain ⟨XK_,XC_,Bw,B3⟩:=onK hb XK_ XC_ Bw B3;obtain ⟨XO_,HO⟩:=onO hb XO_ HO;obtain ⟨XW_,HW⟩:=onO hb XW_ HW;clear hb o0;clear t0 c0;go_wp2_with fail;go_ret;exact ⟨rfl,Bw.o⟩
  by_cases hk:bQ=10\/bQ=11
  case neg =>
   have hdb:(r.2.2 != 0)=false:=by simpa using hd
   have hk1:(bQ != 10)=true:=by simpa using fun h=>hk (.inl h)
   have hk2:(bQ != 11)=true:=by simpa using fun h=>hk (.inr h)
   clear hd hk;have c0:=XC_.o.c6;have o0:=XO_.o.c4;have t0:=XW_.o.c4;go_wp2_with fail;refine (adE r.1 _ _ _ _ _ _ _ _ _ HO.o.rk HW.o.rk).mono ?_;rintro en w9 ⟨rfl,hb⟩;obtain ⟨XK_,XC_,Bw,B3⟩:=onK hb XK_ XC_ Bw B3;obtain ⟨XO_,HO⟩:=onO hb XO_ HO;obtain ⟨XW_,HW⟩:=onO hb XW_ HW;clear hb o0;clear t0 c0;go_wp2_with fail;go_ret;exact ⟨rfl,Bw.o⟩
  have Hd:=af hd;have hdb:(r.2.2 != 0)=false:=by simpa using hd
  clear hd;have Hk:=af hk;have hkb:(bQ != 10)=false\/((bQ != 10)=true/\(bQ != 11)=false):=by
   rcases hk with rfl | rfl
   ·exact .inl rfl
   exact .inr ⟨rfl,rfl⟩
  clear hk;have HP:=af (adQ (k:=k) (c:=⟨bQ,JF,ca,cb,cc,bg⟩) (by rw [HX.o];exact H5.o));have HC:=af (show Kx.cO k ⟨bQ,JF,ca,cb,cc,bg⟩=r from HP.o.2.2.1.symm.trans HX.o);have Yy:=af (Kx.nN.1 HP.o.1);have hGR:=Kx.load_again Yy.o (c:=⟨bQ,JF,ca,cb,cc,bg⟩) HP.o.2.1 Hk.o (by rw [HC.o];exact Hd.o);rw [HC.o] at hGR;simp only at hGR;obtain ⟨ha,⟨i,hi⟩,hGR⟩:=hGR;have ha:=Kx.ay.1 ha;obtain ⟨A,rfl⟩:=Int.eq_ofNat_of_zero_le ha.1;have HGR:=af hGR;have HOr:=af (show Kx.Ok r.1 from Kx.nN.1 (by have:=HP.o.2.2.2;rw [HX.o] at this;exact this));obtain ⟨pg,EU⟩:=XP (A / 4);have hq4:wrap64 ((A:Int) / 4)=(pg:Int):=by rw [<-EU];unfold wrap64;omega
  have hq5:(A:Int) / 4=(pg:Int):=by omega
  rw [hq5] at hi;have HF:=af (fun W (h:Below w8.heap.size w8 W)=>CacheFind_c r.1.cache JF pg i _ W (HO.o.below h).rk.c HOr.o.Ph hi (yS hi).1)
  clear ha hGR EU hi hq5;rcases hkb with h1b | ⟨h1b,h2b⟩
  all_goals (
   have c0:=XC_.o.c6;have o0:=XO_.o.c4;go_wp2_with fail;refine (HF.o w8 fZ).mono ?_;rintro en w9 ⟨⟨y,rfl⟩,hb⟩;obtain ⟨ye,yp,yf,yw_⟩:=y;clear c0 o0;replace XC_:=af (XC_.o.below hb);replace XO_:=af (XO_.o.below hb);replace HO:=af (HO.o.below hb);replace Bw:=af (Bw.o.trans (hb.mono Bw.o.size));clear hb HF;obtain ⟨w10,hw10⟩:∃ V,w9.alloc (.cells #[I_ ye,I_ yp,I_ yf,.bool yw_] 60)=V:=⟨_,rfl⟩;have B10:Below w9.heap.size w9 w10:=hw10 ▸ dm;replace XC_:=af (XC_.o.below B10);replace XO_:=af (XO_.o.below B10);replace HO:=af (HO.o.below B10);replace Bw:=af (Bw.o.trans (B10.mono Bw.o.size));clear B10;have hne1:w4.heap.size≠u1.heap.size:=XO_.o.ne XC_.o (by decide)
   have Xc9:=af (show BX (w10.setCell ⟨u1.heap.size,0,none⟩ (I_ 10)) u1.heap.size 30 [I_ 10,I_ JF,I_ (A:Int),I_ cb,I_ cc,.string bg] from XC_.o.set 0 _);have Xo9:=af (show BX (w10.setCell ⟨u1.heap.size,0,none⟩ (I_ 10)) w4.heap.size 28 [.slice b0 q0 z0,.slice b1 q1 z1,.slice b2 q2 z2,.slice b3 q3 z3] from XO_.o.other hne1 0 _);have Uc:=af (HO.o.box XC_.o boxCall 0 (I_ 10));have Bw9:=af (Bw.o.setCell (p:=⟨u1.heap.size,0,none⟩) Hu1.o (I_ 10));have c0:=XC_.o.c6;have f0:=XC_.o.frozen 0;have o0:=Xo9.o.c4;obtain ⟨d0,d1,d2,d3,d4,d5⟩:=Xc9.o.c6;go_wp2_with fail;obtain ⟨s9,hs9⟩:∃ V,w10.setCell ⟨u1.heap.size,0,none⟩ (I_ 10)=V:=⟨_,rfl⟩;rw [hs9] at Xc9 Xo9 Uc Bw9 ⊢;clear c0 o0;clear hw10 d0 d1 d2 d3 d4 d5 f0 hs9 hne1 XC_ XO_ HO Bw
   have HI2:=af (adb r.1 ⟨10,JF,(A:Int),cb,cc,bg⟩ _ _ _ _ s9 Uc.o.rk (jX (Kx.nN.2 HOr.o)) Hnm.o Hcm.o);obtain ⟨r2,hr2⟩:=XP (Kx.QH r.1 ⟨10,JF,(A:Int),cb,cc,bg⟩);rw [hr2] at HI2 HGR;unfold dW at HI2;clear hr2;refine HI2.o.mono ?_;rintro en w12 ⟨_,_,_,_,rfl,hko,hb⟩;obtain ⟨⟨e0,i0,j0,rfl⟩,⟨e1,i1,j1,rfl⟩,⟨e2,i2,j2,rfl⟩,⟨e3,i3,j3,rfl⟩⟩:=hko.sl;have XC_:=af (Xc9.o.below hb);have XO_:=af (Xo9.o.below hb);have HO:=af (Uc.o.below hb);have Bw:=af (Bw9.o.trans (hb.mono Bw9.o.size));obtain ⟨YN,Ny⟩:∃ V,w12.alloc (.cells #[.slice e0 i0 j0,.slice e1 i1 j1,.slice e2 i2 j2,.slice e3 i3 j3] 28)=V:=⟨_,rfl⟩;have Bw13:Below w12.heap.size w12 YN:=Ny ▸ dm;have XY_:=af (show BX YN w12.heap.size 28 [.slice e0 i0 j0,.slice e1 i1 j1,.slice e2 i2 j2,.slice e3 i3 j3] from Ny ▸ BX.new w12 _ _)
   have HY_:=af (hko.below Bw13);replace XC_:=af (XC_.o.below Bw13);replace XO_:=af (XO_.o.below Bw13);replace HO:=af (HO.o.below Bw13);replace Bw:=af (Bw.o.trans (Bw13.mono Bw.o.size));clear hko hb Bw13 HI2 Xc9 Xo9 Uc Bw9;obtain ⟨q1,q2⟩:=HGR.o;have hzb:(r2.2.2==0)=true:=by simp [q2]
   have HYk:=af (show RK YN _ _ _ _ r.1 by have:=HY_.o.rk;rw [q1] at this;exact this);clear q1 q2;obtain ⟨y0,y1,y2,y3⟩:=XY_.o.c4;have o0:=XO_.o.c4;go_wp2_with fail;refine (adE r.1 _ _ _ _ _ _ _ _ _ HYk.o HO.o.rk).mono ?_;rintro en w14 ⟨rfl,hb⟩;clear y0 y1 y2 y3 o0;go_wp2_with fail;go_ret;exact ⟨rfl,Bw.o.trans (hb.mono Bw.o.size)⟩)
 have hI0:(1048576:Int)<(len0:Int):=by omega
 clear h0;go_enter func10,ntmps10;go_wp2_with fail;go_ret;exact ⟨rfl,Below.refl _ _⟩
theorem qIn:(Rows.fnLoadCacheRow.inPlace==Tryz.pinned.checked.prog.inPlace 10)=true:=by kernel_rfl
theorem qUn:(Rows.fnLoadCacheRow.unfollowed==Tryz.pinned.checked.prog.unfollowed 10)=true:=by kernel_rfl
theorem qRe:(Rows.fnLoadCacheRow.recurses==Tryz.pinned.checked.prog.recurses 10)=true:=by kernel_rfl
theorem qNa:(Rows.fnLoadCacheRow.named==Tryz.pinned.checked.prog.varsNamed 10)=true:=by kernel_rfl
end Go.Proofs.YtmmjmckajcfffaaGreatDoor
