/- KD21, KD22, joined. -/
import Derived.Test.YtecnmehlbfklnaaGreatDoorKDd
import Derived.Test.YtecnmehlbfklnaaGreatDoorKDe
set_option maxHeartbeats 8000000
set_option maxRecDepth 100000
set_option linter.all false
open List renaming getD_eq_getElem?_getD->A1,length_set->A2,length_take->A3
open Nat renaming le_refl->A4,le_of_lt->A5
open Int renaming eq_ofNat_of_zero_le->A6
open Option.some renaming injEq->A9
open Go.Value renaming slice->A0
open Go.Proofs.Tryz
namespace Go.Proofs.YtecnmehlbfklnaaGreatDoor
open Go.RowKit Kx
theorem OE.up {w V:World} {base hi:Nat} {u:Value} {m:List Kx.Env} (h:OE w base hi u m) (hu:Up base w V):OE V base hi u m:=by
 obtain ⟨ss,hl,ho,hq,hs⟩:=h;exact ⟨ss,hl,⟨ho.1.up hu,ho.2⟩,fun i a b=>⟨(hq i a b).1,(hq i a b).2.1.up hu,(hq i a b).2.2⟩,hs⟩
theorem Aj {l:List aG} (h:jo l) {f:Nat} {x:aG} (hx:x.guard.size<=9223372036854775807):jo (l.set f x):=fun y hy=>by
 rcases List.mem_or_eq_of_mem_set hy with h1 | rfl
 ·exact h y h1
 exact hx
theorem G8 {l:List aG} (h:jo l) (f:Nat):(Kx.inf l f).guard.size<=9223372036854775807:=by
 by_cases hf:f<l.length
 ·have e:Kx.inf l f=l[f]:=by simp [Kx.inf,hf]
  rw [e];exact h _ (List.getElem_mem hf)
 have e:Kx.inf l f=aG.zero:=by unfold Kx.inf;rw [A1,List.getElem?_eq_none (by omega)];rfl
 rw [e];decide
theorem Ak {l:List Kx.Env} (h:Am l) {e:Nat} {x:Kx.Env} (hx:Dw x.aB):Am (l.set e x):=fun i hi=>by
 rw [A2] at hi
 by_cases he:i=e
 ·subst he;have e1:au (l.set i x) i=x:=by unfold au;rw [A1,List.getElem?_set];simp [hi]
  rw [e1];exact hx
 have e1:au (l.set e x) i=au l i:=by unfold au;rw [A1,List.getElem?_set,if_neg (fun h=>he h.symm),<-A1]
 rw [e1];exact h i hi
theorem E_ {l:List Kx.Env} (h:Am l) (n:Nat):Am (l.take n):=fun i hi=>by
 rw [A3] at hi;have e1:au (l.take n) i=au l i:=by unfold au;rw [A1,List.getElem?_take,if_pos (by omega),<-A1]
 rw [e1];exact h i (by omega)
theorem uo.take {w:World} {a:Option Addr} {n c:Nat} {es:List Kx.Env} (h:uo w (A0 a n c) es) (k:Nat) (hk:k<=n):uo w (A0 a k c) (es.take k):=by
 obtain ⟨ps,hl,hs,hr⟩:=h;refine ⟨ps.take k,by simp [hl],RS.take hs k hk,fun i h1 h2=>?_⟩
 rw [A3] at h1 h2;rw [List.getElem_take,List.getElem_take];exact hr i (by omega) (by omega)
section
variable {w W V:World} {rb q q' g2 g3 base b:Nat} {v0 v1 v2 v3 u0 u1 u2 u3:Value} {k k':Kx.Kernel}
structure LO (w W:World) (rb q g2 g3 base:Nat) (k:Kx.Kernel) (v0 v1 v2 v3:Value):Prop where
 l:L0 w W rb q g2 g3 v0 v1 v2 v3
 hb:g3<base
 ko:KO W base v0 v1 v2 v3 k
theorem LO.pick (h:LO w W rb q g2 g3 base k v0 v1 v2 v3) (hr:RD V rb q') (hg:W.grownBy V (some rb)):LO w V rb q' g2 g3 base k v0 v1 v2 v3:=
 ⟨h.l.pick hr hg,h.hb,h.ko.up (Up.grown hg (fun g e=>by cases e;have:=h.l.h;have:=h.hb;omega))⟩
theorem LO.below (h:LO w W rb q g2 g3 base k v0 v1 v2 v3) (hb:Below W.heap.size W V):LO w V rb q g2 g3 base k v0 v1 v2 v3:=
 h.pick (h.l.r.keep hb) (grown_below hb ⟨hb.os,hb.tape,hb.output⟩)
theorem L0.set1 (h:L0 w W rb q g2 g3 v0 v1 v2 v3) (hb:g3<b) (i:Nat) (v:Value):L0 w (W.setCell ⟨b,i,none⟩ v) rb q g2 g3 v0 v1 v2 v3:=
 ⟨h.r.grown (aK W b i v) (fun k hk=>by cases hk;have:=h.h;omega),ed h.g (aK W b i v) (fun k hk=>by cases hk;have:=h.h;omega),h.x2.other (by have:=h.h;omega) i v,h.x3.other (by omega) i v,h.sl,h.h⟩
structure LA (w W:World) (rb q g2 g3:Nat) (k:Kx.Kernel) (v0 v1 v2 v3:Value):Prop where
 l:L0 w W rb q g2 g3 v0 v1 v2 v3
 f:∃ base hi,g2<base/\(g3<base\/hi<=g3)/\hi<=W.heap.size/\MP W base hi v0 v1 v2 v3 k
 PI:iQ k/\k.ag.length=12
theorem LO.la (h:LO w W rb q g2 g3 base k v0 v1 v2 v3) (hs:iQ k) (h12:k.ag.length=12):LA w W rb q g2 g3 k v0 v1 v2 v3:=
 ⟨h.l,⟨base,W.heap.size,by have:=h.l.h;have:=h.hb;omega,.inl h.hb,A4 _,h.ko.MQ.r⟩,hs,h12⟩
theorem LK.la (h:LK w W rb q g2 g3 k v0 v1 v2 v3):LA w W rb q g2 g3 k v0 v1 v2 v3:=⟨h.l,h.f,jX h.ok,(aI h.ok).2.2.1⟩
theorem LA.fin (h:LA w W rb q g2 g3 k v0 v1 v2 v3):∃ base,g2<base/\Fa (sets W g2 0 [v0,v1,v2,v3]) base v0 v1 v2 v3 k/\RD (sets W g2 0 [v0,v1,v2,v3]) rb q/\w.grownBy (sets W g2 0 [v0,v1,v2,v3]) (some rb)/\BX (sets W g2 0 [v0,v1,v2,v3]) g2 28 [v0,v1,v2,v3]:=by
 obtain ⟨base,hi,h2,h3,h4,hk⟩:=h.f;have h1:=h.l.h;obtain ⟨a,b⟩:=mi (w:=w) (g:=g2) (by omega) (by omega) [v0,v1,v2,v3] 0 h.l.r h.l.g;exact ⟨base,h2,(hk.to (by rw [jB];exact A4 _) (fun j a _=>mG _ _ (by omega) _ _)).MQ (by rw [jB];exact h4),a,b,h.l.x2.sets _ rfl⟩
end
def PK (rb p n:Nat) (w:World) (en:Ending) (w':World):Prop:=∃ (k:Kx.Kernel) (um ui ue uc:Value) (base:Nat),en=.returned (.agg #[um,ui,ue,uc])/\(Sl um/\Sl ui/\Sl ue/\Sl uc)/\iQ k/\k.ag.length=12/\w.heap.size<=base/\Fa w' base um ui ue uc k/\nP rb p n w w'
theorem JA (rb p:Nat) (w:World) (h:RD w rb p) (hp:p<=500000) :
  Calls prog 29 #[.pointer (some ⟨rb,0,none⟩)] w (PK rb p 1200 w):=by
 have hrb:=h.lt;obtain ⟨w1,hw1⟩:=XP (w.alloc (.cells #[A0 none 0 0,A0 none 0 0,A0 none 0 0,A0 none 0 0] 28));have B1:Below w.heap.size w w1:=hw1 ▸ dm;have s1:w.heap.size<w1.heap.size:=by rw [<-hw1];simp
 have Hr:=af (h.keep B1);have Hg:=af (grown_below (rb:=rb) B1 ⟨B1.os,B1.tape,B1.output⟩);have hX2:=af (show BX w1 w.heap.size 28 [A0 none 0 0,A0 none 0 0,A0 none 0 0,A0 none 0 0] from (hw1 ▸ BX.new w _ _:BX w1 _ _ _));clear B1 h;go_enter func29,ntmps29;go_wp2_with fail;clear hw1;refine (Dx rb p w1 Hr.o (by omega)).mono ?_;rintro en w2 ⟨k,_,_,_,_,base,rfl,⟨⟨a0,n0,m0,rfl⟩,⟨a1,n1,m1,rfl⟩,⟨a2,n2,m2,rfl⟩,⟨a3,n3,m3,rfl⟩⟩,hok,hbase,hko,q,hq,hr,hg⟩;have hz2:=hg.size;obtain ⟨w3,hw3⟩:=XP (w2.alloc (.cells #[A0 a0 n0 m0,A0 a1 n1 m1,A0 a2 n2 m2,A0 a3 n3 m3] 28));have B3:Below w2.heap.size w2 w3:=hw3 ▸ dm;have H:=af (show LK w w3 rb q w.heap.size w2.heap.size k (A0 a0 n0 m0) (A0 a1 n1 m1) (A0 a2 n2 m2) (A0 a3 n3 m3) from
  ⟨⟨hr.keep B3,grownBy_trans (grownBy_trans Hg.o hg) (grown_below (rb:=rb) B3 ⟨B3.os,B3.tape,B3.output⟩),BX.below (show BX w2 _ _ _ from (hg.block w.heap.size hX2.o.lt (by simp;omega)).trans hX2.o) B3,hw3 ▸ BX.new w2 _ _,⟨⟨_,_,_,rfl⟩,⟨_,_,_,rfl⟩,⟨_,_,_,rfl⟩,⟨_,_,_,rfl⟩⟩,by omega⟩,
   ⟨base,w2.heap.size,by omega,.inr aW,B3.size,hko.r.to B3.size (fun j _ b=>B3.block j b)⟩,hok⟩)
 obtain ⟨g3,hg3⟩:=XP w2.heap.size;rw [hg3] at H;clear hko hr hg B3 Hr Hg hX2 hok hbase;go_wp2_with fail
 try rw [hw3]
 try rw [hg3]
 refine (afo 14 H.o.l.r).mono ?_;rintro en w4 ⟨x,rfl,x0,x1,hr,hg⟩;replace H:=af (H.o.pick hr hg);clear hr hg hw3 hg3
 by_cases hx:x=0
 ·subst hx;have HC:=af (show Calls prog 58 #[.agg #[A0 a0 n0 m0,A0 a1 n1 m1,A0 a2 n2 m2,A0 a3 n3 m3]] w4 _ from by obtain ⟨hl1,hl2,hl3,hl4,hl5⟩:=nR H.o.ok;exact vg k _ _ _ _ w4 H.o.rk hl1 hl2 hl3 hl4 hl5);have bF:=af H.o.ok;have c0:=H.o.l.x3.c4;go_wp2_with fail;refine HC.o.mono ?_;rintro en w5 ⟨_,_,_,_,rfl,ho,hb⟩;obtain ⟨⟨b0,xN,wL,rfl⟩,⟨b1,zH,xC,rfl⟩,⟨b2,wM,qB,rfl⟩,⟨b3,zI,zJ,rfl⟩⟩:=ho.sl;have h5:=H.o.l.below hb;have Vx:=H.o.l.x3.lt;have HO:=af (show LO w (sets w5 g3 0 [A0 b0 xN wL,A0 b1 zH xC,A0 b2 wM qB,A0 b3 zI zJ]) rb _ w.heap.size g3 w4.heap.size k (A0 b0 xN wL) (A0 b1 zH xC) (A0 b2 wM qB) (A0 b3 zI zJ) from ⟨h5.RQ ⟨⟨_,_,_,rfl⟩,⟨_,_,_,rfl⟩,⟨_,_,_,rfl⟩,⟨_,_,_,rfl⟩⟩,Vx,KO.sets aJ _ 0 h5.x3 ho⟩);clear c0;have c0:=h5.x3.c4
  have y0:=h5.x3.f4;obtain ⟨w6,hw6⟩:=XP (sets w5 g3 0 [A0 b0 xN wL,A0 b1 zH xC,A0 b2 wM qB,A0 b3 zI zJ]);rw [hw6] at HO;clear ho hb h5 H HC;go_wp2_with fail;rw [afA w5,hw6];clear hw6 c0 y0;refine (afo 12 HO.o.l.r).mono ?_;rintro en w7 ⟨f,rfl,f0,f1,hr,hg⟩;replace HO:=af (HO.o.pick hr hg);obtain ⟨f,rfl⟩:=A6 f0;clear hr hg;go_wp2_with fail;refine (afo 7 HO.o.l.r).mono ?_;rintro en w8 ⟨y,rfl,ZP,ZQ,hr,hg⟩;replace HO:=af (HO.o.pick hr hg);clear hr hg;obtain ⟨hmo,jI,h12,_,h3,_⟩:=aI bF.o
  have kX:=af (jC.1 hmo).1;have fJ:=af h12;have H3:=af h3;have Hs:=af (jX bF.o);have dG:f<12:=by omega
  clear hmo jI h12 h3;go_upto_block 0 with fail;go_cut [4] from 5 (fun _ wx=>∃ (q:Nat) (k:Kx.Kernel) (v0 v1 v2 v3:Value),q<=p+1150/\TI (LA w wx rb q w.heap.size g3 k v0 v1 v2 v3))
  case first =>
   by_cases k0:y=0
   ·subst k0;obtain ⟨d,hd⟩:=XP w8.drew;have Bd:Below w8.heap.size w8 d:=hd ▸ Below.bz fZ;have Hd:=af hd;replace HO:=af (HO.o.below Bd);clear hd Bd;go_wp2_with fail;have hrow4:(Kx.row k.mem f).length=4:=by
     obtain ⟨hmo,_⟩:=aI bF.o;exact (mem_row hmo dG).2.1
    have JB:=af hrow4;clear hrow4;have zO:=af (fun (V:World) (a:Nat) (h:KO V w4.heap.size (A0 b0 xN wL) (A0 b1 zH xC) (A0 b2 wM qB) (A0 b3 zI zJ) k) (ha:a<4)=>KO.bG h (f:=f) (a:=a) (by rw [kX.o];exact dG) (by rw [JB.o];exact ha))
    obtain ⟨mb,mc,mg,ZR,e1,e2,_⟩:=zO.o d 0 HO.o.ko (by decide);rw [kX.o] at e1;obtain ⟨rfl,rfl,rfl⟩:=Za e1;clear e1;rw [JB.o] at e2;have E2:=af e2;clear e2;have hmb:=af (show mb≠rb/\mb<d.heap.size from ⟨by
      have h1:=HO.o.hb;have h2:=HO.o.l.h;obtain ⟨b',c',g',c2',e,_,h4,_⟩:=HO.o.ko.m.bG (f:=f) (a:=0) (by rw [kX.o];exact dG) (by rw [JB.o];decide);obtain ⟨b'',c'',e',h5,h6⟩:=(show ∃ b'' c'',(Value.slice (some ⟨mb,0,none⟩) 12 wL)=A0 (some ⟨b'',0,none⟩) 12 c''/\w4.heap.size<=b''/\b''<d.heap.size from by
       obtain ⟨ss,hl,ho,_⟩:=HO.o.ko.m;obtain ⟨g,cp,e,h7,h8⟩:=ho.1.shape (by rw [hl,kX.o];decide);rw [hl,kX.o] at e;exact ⟨g,cp,e,h7,h8⟩)
      simp only [Value.slice.injEq,A9,Addr.mk.injEq] at e';omega,by
      obtain ⟨ss,hl,ho,_⟩:=HO.o.ko.m;obtain ⟨g,cp,e,h7,h8⟩:=ho.1.shape (by rw [hl,kX.o];decide);simp only [Value.slice.injEq,A9,Addr.mk.injEq] at e;omega⟩)
    refine uu (S:=(fun U:World=>U.cell? ⟨g3,0,none⟩=some (A0 (some ⟨mb,0,none⟩) 12 wL)/\U.cell? ⟨mb,f,none⟩=some (A0 (some ⟨mg,0,none⟩) 4 ZR))) (xs:=[11]) (by kernel_rfl) (by rw [Hd.o];exact ⟨HO.o.l.x3.cell 0,E2.o⟩) (fun hHeld=>?_)
    rw [Hd.o];rw [Hd.o] at hHeld;refine tP 0 ?_;refine tL 1 ?_;refine tP 2 ?_;refine tP 3 ?_;refine tL 4 ?_;refine tP 5 ?_;refine tP 7 ?_;refine aho 6 fun K hK=>?_;go_simp;go_at_call 31;refine (afo 4 HO.o.l.r).mono ?_;rintro en V1 ⟨xa,rfl,xa0,UE,hr,hg⟩;have H1:=af (HO.o.pick hr hg);obtain ⟨xa,rfl⟩:=A6 xa0;have E3:=af ((World.cell?_of_block (hg.block mb hmb.o.2 (by have:=hmb.o.1;simpa using this)) (a:=⟨mb,f,none⟩)).trans E2.o);have Vy:=af (Nat.lt_of_lt_of_le hmb.o.2 hg.size);clear hr hg;refine afX hK ⟨H1.o.l.x3.cell 0,E3.o⟩ fun hHeld=>?_
    clear hK K;refine aho 8 fun K hK=>?_;go_simp;go_at_call 59;refine (yz rb _ _ H1.o.l.r (by omega)).mono ?_;rintro en V2 ⟨xe,rfl,-,q2,hq2,hr,hg⟩;have H2:=af (H1.o.pick hr hg);have E4:=af ((World.cell?_of_block (hg.block mb Vy.o (by have:=hmb.o.1;simpa using this)) (a:=⟨mb,f,none⟩)).trans E3.o);clear hr hg;refine afX hK ⟨H2.o.l.x3.cell 0,E4.o⟩ fun hHeld=>?_
    clear hK K;refine tP 9 ?_;refine tP 10 ?_;obtain ⟨b',c',g',c2',e1,e2,hge,_,_,⟨z,hz⟩,hfz,hK⟩:=zO.o V2 xa H2.o.ko (by omega);have hgb:=af (show mg=g' by
     have h1:=E4.o;obtain ⟨⟨rfl,_⟩,_⟩:=Zb e1;clear e1;rw [e2] at h1;simp only [A9,Value.slice.injEq,Addr.mk.injEq] at h1;exact h1.1.1.symm)
    obtain rfl:=hgb.o;have HK:=af hK;have Vz:=af hge;clear hK e1 e2 hge;refine ahp 11 fun K hK=>?_;go_simp;refine hK.out _ _ ?_;clear hK K;refine nL ?_;refine gY (by kernel_rfl) ?_ _;go_wp2_with fail;go_meet;exact ⟨_,_,_,_,_,_,by omega,af (LO.la ⟨H2.o.l.set1 (by have:=H2.o.hb;have:=Vz.o;omega) _ _,H2.o.hb,HK.o _⟩ Hs.o fJ.o)⟩
   have n0:(y==0)=false:=by simpa using k0
   clear k0
   by_cases k1:y=1
   ·subst k1;obtain ⟨d,hd⟩:=XP w8.drew;have Bd:Below w8.heap.size w8 d:=hd ▸ Below.bz fZ;have Hd:=af hd;replace HO:=af (HO.o.below Bd);clear hd Bd;go_wp2_with fail;obtain ⟨ib,ic,ei,VA,VB⟩:=HO.o.ko.i.shape (by rw [fJ.o];decide);rw [fJ.o] at ei;obtain ⟨rfl,rfl,rfl⟩:=Za ei;clear ei;refine uu (S:=(fun U:World=>U.cell? ⟨g3,1,none⟩=some (A0 (some ⟨ib,0,none⟩) 12 xC))) (xs:=[6]) (by kernel_rfl) (by rw [Hd.o];exact HO.o.l.x3.cell 1) (fun hHeld=>?_)
    rw [Hd.o];rw [Hd.o] at hHeld;refine tP 0 ?_;refine tL 1 ?_;refine tP 2 ?_;refine tP 3 ?_;refine aho 4 fun K hK=>?_;go_simp;go_at_call 60;refine (G9 rb _ _ HO.o.l.r (by omega)).mono ?_;rintro en V1 ⟨xi,rfl,hxi,q2,hq2,hr,hg⟩;have H1:=af (HO.o.pick hr hg);clear hr hg;unfold kN;refine afX hK (H1.o.l.x3.cell 1) fun hHeld=>?_
    clear hK K;refine tP 5 ?_;have O1:=H1.o.ko.i;obtain ⟨⟨z0,hz0⟩,hf0⟩:=O1.bP f (by rw [fJ.o];exact dG) 0 (by decide);obtain ⟨⟨z1,hz1⟩,hf1⟩:=O1.bP f (by rw [fJ.o];exact dG) 1 (by decide);obtain ⟨⟨z2,hz2⟩,hf2⟩:=O1.bP f (by rw [fJ.o];exact dG) 2 (by decide);rw [Nat.add_zero] at hz0 hf0;obtain ⟨hO2,hG2⟩:=O1.jy fJ.o f xi (by rw [fJ.o];exact dG);have hkd:∃ cs,V1.heap[ib]?=some (.cells cs 53 (0,0)):=O1.kind rfl;have HF:=af (show LA w (((V1.setCell ⟨ib,f*3,none⟩ (I_ xi.kind)).setCell ⟨ib,f*3+1,none⟩ (.string xi.guard)).setCell ⟨ib,f*3+2,none⟩ (I_ xi.refs)) rb q2 w.heap.size g3 { k with ag:=k.ag.set f xi } (A0 b0 xN wL) (A0 (some ⟨ib,0,none⟩) 12 xC) (A0 b2 wM qB) (A0 b3 zI zJ) from by
     obtain ⟨cs,hkd⟩:=hkd;have hgi:g3<ib:=by have:=H1.o.hb;omega
     refine LO.la (base:=w4.heap.size) ⟨((H1.o.l.set1 hgi _ _).set1 hgi _ _).set1 hgi _ _,H1.o.hb,?_,hO2,?_,?_⟩ ⟨Aj Hs.o.1 (by omega),Hs.o.2⟩ ((A2 ..).trans fJ.o)
     ·have:=H1.o.ko.m.dh hG2 hkd (by decide) (by decide)
      rw [show (((V1.setCell ⟨ib,f*3,none⟩ (I_ xi.kind)).setCell ⟨ib,f*3+1,none⟩ (.string xi.guard)).setCell ⟨ib,f*3+2,none⟩ (I_ xi.refs)).heap.size=V1.heap.size by simp [World.setCell]];exact this
     ·have:=H1.o.ko.e.dh hG2 hkd (by decide) (by decide)
      rw [show (((V1.setCell ⟨ib,f*3,none⟩ (I_ xi.kind)).setCell ⟨ib,f*3+1,none⟩ (.string xi.guard)).setCell ⟨ib,f*3+2,none⟩ (I_ xi.refs)).heap.size=V1.heap.size by simp [World.setCell]];exact this
     exact H1.o.ko.c.dh hG2 hkd (by decide))
    clear O1 hO2 hG2 hkd;refine ahp 6 fun K hK=>?_;go_simp;refine hK.out _ _ ?_;clear hK K;refine nL ?_;refine gY (by kernel_rfl) ?_ _;go_wp2_with fail;go_meet;exact ⟨_,_,_,_,_,_,by omega,HF⟩
   have n1:(y==1)=false:=by simpa using k1
   clear k1
   by_cases k2:y=2
   ·subst k2;have zO:=af (fun (V:World) (h:KO V w4.heap.size (A0 b0 xN wL) (A0 b1 zH xC) (A0 b2 wM qB) (A0 b3 zI zJ) k)=>KO.aF h (f:=f) (by rw [fJ.o];exact dG))
    obtain ⟨ib,ic,ei,VA,VB,_,⟨z,hz⟩,hfz,hcz,hK⟩:=zO.o w8 HO.o.ko;rw [fJ.o] at ei;obtain ⟨rfl,rfl,rfl⟩:=Za ei;clear ei;have VC:=af (HO.o.below (Below.bz (Below.refl w8.heap.size w8)));have ZT:=af (show ∀ x,KO (w8.drew.setCell ⟨ib,f*3+2,none⟩ (I_ x)) w4.heap.size (A0 b0 xN wL) (A0 (some ⟨ib,0,none⟩) 12 xC) (A0 b2 wM qB) (A0 b3 zI zJ) { k with ag:=k.ag.set f { Kx.inf k.ag f with refs:=x } } from fun x=>by
     obtain ⟨ib2,ic2,Oc,_,_,_,_,_,_,hK2⟩:=zO.o w8.drew VC.o.ko;obtain ⟨⟨rfl,_⟩,_⟩:=Zb Oc;clear Oc;exact hK2 x)
    have hrr:=(kz.1 (aI bF.o).2.1).2 f (by omega);have PL:(Kx.inf k.ag f).refs<=50/\0<=(Kx.inf k.ag f).refs:=by
     rcases gZ.1 hrr with h0 | h0
     ·rw [h0];decide
     have:=h0.2.2.2;first | (have:=Kx.ay.1 this;omega) | omega
    obtain ⟨PL,hr0⟩:=PL;generalize hrf:(Kx.inf k.ag f).refs=rf at hcz PL hr0;have p1:=HO.o.l.x3.cell 1;simp only [List.getElem?_cons_zero,List.getElem?_cons_succ] at p1;clear hK hrr hrf hz;go_wp2_with fail;go_still_tail 12,(by kernel_rfl)
    go_wp2_with fail;go_meet;exact ⟨_,_,_,_,_,_,by omega,af (LO.la ⟨VC.o.l.set1 (by have:=HO.o.hb;omega) _ _,VC.o.hb,ZT.o _⟩ ⟨Aj Hs.o.1 (G8 Hs.o.1 f),Hs.o.2⟩ ((A2 ..).trans fJ.o))⟩
   have n2:(y==2)=false:=by simpa using k2
   clear k2
   by_cases k3:y=3
   ·subst k3;obtain ⟨d,hd⟩:=XP w8.drew;have Bd:Below w8.heap.size w8 d:=hd ▸ Below.bz fZ;have Hd:=af hd;replace HO:=af (HO.o.below Bd);clear hd Bd;go_wp2_with fail;obtain ⟨eb,ec,ei,heb⟩:=(show ∃ b c,(A0 b2 wM qB:Value)=A0 (some ⟨b,0,none⟩) k.ah.length c/\w4.heap.size<=b from by obtain ⟨b,c,h1,h2,_⟩:=HO.o.ko.dE (e:=0) (by rw [H3.o];decide);exact ⟨b,c,h1,h2⟩);rw [H3.o] at ei;obtain ⟨rfl,rfl,rfl⟩:=Za ei;clear ei;refine uu (S:=(fun U:World=>U.cell? ⟨g3,2,none⟩=some (A0 (some ⟨eb,0,none⟩) 3 qB))) (xs:=[9]) (by kernel_rfl) (by rw [Hd.o];exact HO.o.l.x3.cell 2) (fun hHeld=>?_)
    rw [Hd.o];rw [Hd.o] at hHeld;refine tP 0 ?_;refine tL 1 ?_;refine tP 2 ?_;refine tP 4 ?_;refine aho 3 fun K hK=>?_;go_simp;go_at_call 31;refine (afo 3 HO.o.l.r).mono ?_;rintro en V1 ⟨xa,rfl,xa0,UE,hr,hg⟩;have H1:=af (HO.o.pick hr hg);obtain ⟨xa,rfl⟩:=A6 xa0;clear hr hg;refine afX hK (H1.o.l.x3.cell 2) fun hHeld=>?_
    clear hK K;refine aho 5 fun K hK=>?_;go_simp;go_at_call 31;refine (afo 13 H1.o.l.r).mono ?_;rintro en V2 ⟨xb,rfl,ZU,ZV,hr,hg⟩;have H2:=af (H1.o.pick hr hg);clear hr hg;refine afX hK (H2.o.l.x3.cell 2) fun hHeld=>?_
    clear hK K;have RU:xa<3:=by omega
    refine tP 6 ?_;refine tP 7 ?_;refine tP 8 ?_;obtain ⟨ZW,ZX,Oc,_,_,_,⟨z,hz⟩,hfz,hK⟩:=H2.o.ko.dE (e:=xa) (by rw [H3.o];omega);obtain ⟨⟨rfl,_⟩,hq3,hq4⟩:=Zb Oc;clear Oc hq3 hq4;have HK:=af hK;clear hK;refine ahp 9 fun K hK=>?_;go_simp;refine hK.out _ _ ?_;clear hK K;refine nL ?_;refine gY (by kernel_rfl) ?_ _;go_wp2_with fail;go_meet;exact ⟨_,_,_,_,_,_,by omega,af (LO.la ⟨H2.o.l.set1 (by have:=H2.o.hb;omega) _ _,H2.o.hb,HK.o _⟩ ⟨Hs.o.1,Ak Hs.o.2 (by by_cases he:xa<k.ah.length;exact Hs.o.2 xa he;exact absurd (by rw [H3.o];omega) he)⟩ fJ.o)⟩
   have n3:(y==3)=false:=by simpa using k3
   clear k3
   by_cases k4:y=4
   ·subst k4;obtain ⟨d,hd⟩:=XP w8.drew;have Bd:Below w8.heap.size w8 d:=hd ▸ Below.bz fZ;have Hd:=af hd;replace HO:=af (HO.o.below Bd);clear hd Bd;go_wp2_with fail;obtain ⟨eb,ec,ei,heb⟩:=(show ∃ b c,(A0 b2 wM qB:Value)=A0 (some ⟨b,0,none⟩) k.ah.length c/\w4.heap.size<=b from by obtain ⟨b,c,h1,h2,_⟩:=HO.o.ko.dE (e:=0) (by rw [H3.o];decide);exact ⟨b,c,h1,h2⟩);rw [H3.o] at ei;obtain ⟨rfl,rfl,rfl⟩:=Za ei;clear ei;refine uu (S:=(fun U:World=>U.cell? ⟨g3,2,none⟩=some (A0 (some ⟨eb,0,none⟩) 3 qB))) (xs:=[8]) (by kernel_rfl) (by rw [Hd.o];exact HO.o.l.x3.cell 2) (fun hHeld=>?_)
    rw [Hd.o];rw [Hd.o] at hHeld;refine tP 0 ?_;refine tL 1 ?_;refine tP 2 ?_;refine tP 4 ?_;refine aho 3 fun K hK=>?_;go_simp;go_at_call 31;refine (afo 3 HO.o.l.r).mono ?_;rintro en V1 ⟨xa,rfl,xa0,UE,hr,hg⟩;have H1:=af (HO.o.pick hr hg);obtain ⟨xa,rfl⟩:=A6 xa0;clear hr hg;refine afX hK (H1.o.l.x3.cell 2) fun hHeld=>?_
    clear hK K;refine aho 5 fun K hK=>?_;go_simp;go_at_call 61;refine (Dy rb _ _ H1.o.l.r (by omega)).mono ?_;rintro en V2 ⟨_,xr,rfl,hor,hxr,q2,hq2,hr,hg⟩;have H2:=af (H1.o.pick hr hg);have HE2:=af (show OE V2 w4.heap.size V1.heap.size _ k.ah from H1.o.ko.e.up (Up.grown hg (fun g e=>by cases e;have:=H1.o.l.h;have:=H1.o.hb;omega)));obtain ⟨ra,rc,rfl,_,_⟩:=RS.val hor.rs;have HOr:=af hor;have PM:=af hg.size;have PN:=af (show w4.heap.size<=V1.heap.size from by have:=H1.o.ko.e;obtain ⟨b,c,_,h2,h3,_⟩:=H1.o.ko.dE (e:=0) (by rw [H3.o];decide);omega);clear hr hg hor;refine afX hK (H2.o.l.x3.cell 2) fun hHeld=>?_
    clear hK K;have RU:xa<3:=by omega
    refine tP 6 ?_;refine tP 7 ?_;obtain ⟨ZW,ZX,Oc,_,_,_,⟨z,hz⟩,hfz,hK⟩:=H2.o.ko.aY HE2.o PN.o PM.o (e:=xa) (by rw [H3.o];omega) ⟨ra,xr.length,rc⟩ xr HOr.o;obtain ⟨⟨rfl,_⟩,hq3,hq4⟩:=Zb Oc;clear Oc hq3 hq4;have HK:=af (show KO (V2.setCell ⟨eb,xa*2,none⟩ (A0 ra xr.length rc)) _ _ _ _ _ _ from hK);clear hK;refine ahp 8 fun K hK=>?_;go_simp;refine hK.out _ _ ?_;clear hK K;refine nL ?_;refine gY (by kernel_rfl) ?_ _;go_wp2_with fail;go_meet;exact ⟨_,_,_,_,_,_,by omega,af (LO.la ⟨H2.o.l.set1 (by have:=H2.o.hb;omega) _ _,H2.o.hb,HK.o⟩ ⟨Hs.o.1,Ak Hs.o.2 (fun s hs=>Nat.le_trans (hxr s hs) (by decide))⟩ fJ.o)⟩
   have n4:(y==4)=false:=by simpa using k4
   clear k4
   by_cases k5:y=5
   ·subst k5;go_wp2_with fail;refine (Fb rb _ _ HO.o.l.r (by omega)).mono ?_;rintro en V1 ⟨_,xc,rfl,hoc,q2,hq2,hr,hg⟩;have H1:=af (HO.o.pick hr hg);obtain ⟨ca,cc,rfl,_,_⟩:=RS.val hoc.rs;have Yg:w4.heap.size<=w8.heap.size:=by obtain ⟨b,c,_,h2,h3,_⟩:=HO.o.ko.dE (e:=0) (by rw [H3.o];decide);omega
    have HF:=af (show LA w (V1.setCell ⟨g3,3,none⟩ (A0 ca xc.length cc)) rb q2 w.heap.size g3 { k with cache:=xc } (A0 b0 xN wL) (A0 b1 zH xC) (A0 b2 wM qB) (A0 ca xc.length cc) from by
     have hl:=H1.o.l;have hkx:KO V1 w4.heap.size (A0 b0 xN wL) (A0 b1 zH xC) (A0 b2 wM qB) (A0 ca xc.length cc) { k with cache:=xc }:=⟨H1.o.ko.m,H1.o.ko.i,H1.o.ko.e,hoc.mono Yg⟩;refine LO.la (base:=w4.heap.size) ⟨⟨hl.r.grown (aK V1 g3 3 _) (fun k hk=>by cases hk;have:=hl.h;omega),ed hl.g (aK V1 g3 3 _) (fun k hk=>by cases hk;have:=hl.h;omega),hl.x2.other (by have:=hl.h;omega) 3 _,hl.x3.set 3 _,⟨⟨_,_,_,rfl⟩,⟨_,_,_,rfl⟩,⟨_,_,_,rfl⟩,⟨_,_,_,rfl⟩⟩,hl.h⟩,H1.o.hb,hkx.box hl.x3 aJ 3 _⟩ Hs.o fJ.o)
    have c0:=H1.o.l.x3.c4;have y0:=H1.o.l.x3.f4;clear hr hg hoc;go_wp2_with fail;go_meet;exact ⟨_,_,_,_,_,_,by omega,HF⟩
   have n5:(y==5)=false:=by simpa using k5
   clear k5;obtain rfl:y=6:=by simp only [beq_eq_false_iff_ne] at n0 n1 n2 n3 n4 n5;omega
   obtain ⟨d,hd⟩:=XP w8.drew;have Bd:Below w8.heap.size w8 d:=hd ▸ Below.bz fZ;have Hd:=af hd;replace HO:=af (HO.o.below Bd);clear hd Bd;go_wp2_with fail;obtain ⟨eb,ec,ei,heb⟩:=(show ∃ b c,(A0 b2 wM qB:Value)=A0 (some ⟨b,0,none⟩) k.ah.length c/\k.ah.length<=c from by obtain ⟨_,a,c,h1,h2,_⟩:=HO.o.ko.e.re.len;obtain ⟨b,c',h3,_⟩:=HO.o.ko.dE (e:=0) (by rw [H3.o];decide);refine ⟨b,c',h3,?_⟩;rw [h3] at h1;simp only [Value.slice.injEq] at h1;omega);rw [H3.o] at ei heb;obtain ⟨rfl,rfl,rfl⟩:=Za ei;clear ei;refine uu (S:=(fun U:World=>U.cell? ⟨g3,2,none⟩=some (A0 (some ⟨eb,0,none⟩) 3 qB))) (xs:=[6]) (by kernel_rfl) (by rw [Hd.o];exact HO.o.l.x3.cell 2) (fun hHeld=>?_)
   rw [Hd.o];rw [Hd.o] at hHeld;refine tP 0 ?_;refine tL 1 ?_;refine tP 2 ?_;refine aho 3 fun K hK=>?_;go_simp;go_at_call 31;refine (afo 3 HO.o.l.r).mono ?_;rintro en V1 ⟨xa,rfl,xa0,UE,hr,hg⟩;have H1:=af (HO.o.pick hr hg);obtain ⟨xa,rfl⟩:=A6 xa0;clear hr hg;refine afX hK (H1.o.l.x3.cell 2) fun hHeld=>?_
   clear hK K;have RU:xa<3:=by omega
   have ZY:xa<=qB:=by omega
   have Yh:(xa:Int)<=(qB:Int):=by omega
   refine tP 4 ?_;refine tP 5 ?_;have HF:=af (show LA w (V1.setCell ⟨g3,2,none⟩ (A0 (some ⟨eb,0,none⟩) xa qB)) rb _ w.heap.size g3 { k with ah:=k.ah.take xa } (A0 b0 xN wL) (A0 b1 zH xC) (A0 (some ⟨eb,0,none⟩) xa qB) (A0 b3 zI zJ) from by
    have hl:=H1.o.l;have hkx:=H1.o.ko.box hl.x3 aJ 2 (A0 (some ⟨eb,0,none⟩) xa qB);refine ⟨⟨hl.r.grown (aK V1 g3 2 _) (fun k hk=>by cases hk;have:=hl.h;omega),ed hl.g (aK V1 g3 2 _) (fun k hk=>by cases hk;have:=hl.h;omega),hl.x2.other (by have:=hl.h;omega) 2 _,hl.x3.set 2 _,⟨⟨_,_,_,rfl⟩,⟨_,_,_,rfl⟩,⟨_,_,_,rfl⟩,⟨_,_,_,rfl⟩⟩,hl.h⟩,⟨w4.heap.size,(V1.setCell ⟨g3,2,none⟩ (A0 (some ⟨eb,0,none⟩) xa qB)).heap.size,by have:=hl.h;have:=H1.o.hb;omega,.inl H1.o.hb,A4 _,fun V hs hk=>?_⟩,⟨Hs.o.1,E_ Hs.o.2 xa⟩,fJ.o⟩
    have h:=hkx.MQ.r V hs hk;exact ⟨h.m,h.i,h.e.take xa (by omega),h.c⟩)
   have c0:=H1.o.l.x3.c4;have y0:=H1.o.l.x3.f4;refine ahp 6 fun K hK=>?_;go_simp;refine hK.out _ _ ?_;clear hK K;refine nL ?_;refine gY (by kernel_rfl) ?_ _;go_wp2_with fail;go_meet;exact ⟨_,_,_,_,_,_,by omega,HF⟩
  case rest =>
   clear HO;obtain ⟨q,k,v0,v1,v2,v3,hq,H⟩:=hcut;obtain ⟨⟨a0,n0,m0,rfl⟩,⟨a1,n1,m1,rfl⟩,⟨a2,n2,m2,rfl⟩,⟨a3,n3,m3,rfl⟩⟩:=H.o.l.sl;obtain ⟨JC,yA,hko,hrd,hgr,hbx⟩:=H.o.fin;have tZ:=af hko;have Oe:=af hrd;have JD:=af hgr;have jF:=af hbx;have VD:=af H.o.PI;have aC:=af yA;have c0:=H.o.l.x3.c4;have r0:=H.o.l.x2.c4;have jh:=H.o.l.x2.f4;clear hko hrd hgr hbx yA;go_wp2_with fail;obtain ⟨F,hF⟩:=XP (sets wc w.heap.size 0 [A0 a0 n0 m0,A0 a1 n1 m1,A0 a2 n2 m2,A0 a3 n3 m3]);rw [afA wc,hF];rw [hF] at tZ Oe JD jF;refine af7 (by simp [results,results29,go_sem,jF.o.c4]<;>rfl) ?_;exact ⟨_,_,_,_,_,JC,rfl,⟨⟨_,_,_,rfl⟩,⟨_,_,_,rfl⟩,⟨_,_,_,rfl⟩,⟨_,_,_,rfl⟩⟩,VD.o.1,VD.o.2,A5 aC.o,tZ.o,_,by omega,Oe.o,JD.o⟩
 have hx1:0<x:=by omega
 replace H:=af H.o.la;obtain ⟨JC,yA,hko,hrd,hgr,hbx⟩:=H.o.fin;have tZ:=af hko;have Oe:=af hrd;have JD:=af hgr;have jF:=af hbx;have VD:=af H.o.PI;have aC:=af yA;have c0:=H.o.l.x3.c4;have r0:=H.o.l.x2.c4;have jh:=H.o.l.x2.f4;clear hko hrd hgr hbx yA;go_wp2_with fail;obtain ⟨F,hF⟩:=XP (sets w4 w.heap.size 0 [A0 a0 n0 m0,A0 a1 n1 m1,A0 a2 n2 m2,A0 a3 n3 m3]);rw [afA w4,hF];rw [hF] at tZ Oe JD jF;refine af7 (by simp [results,results29,go_sem,jF.o.c4]<;>rfl) ?_;exact ⟨_,_,_,_,_,JC,rfl,⟨⟨_,_,_,rfl⟩,⟨_,_,_,rfl⟩,⟨_,_,_,rfl⟩,⟨_,_,_,rfl⟩⟩,VD.o.1,VD.o.2,A5 aC.o,tZ.o,_,by omega,Oe.o,JD.o⟩
end Go.Proofs.YtecnmehlbfklnaaGreatDoor
