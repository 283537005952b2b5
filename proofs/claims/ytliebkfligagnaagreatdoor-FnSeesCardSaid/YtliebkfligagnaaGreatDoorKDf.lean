/- KD21, KD22, joined. -/
import Derived.Test.YtliebkfligagnaaGreatDoorKDd
import Derived.Test.YtliebkfligagnaaGreatDoorKDe
set_option maxHeartbeats 8000000
set_option maxRecDepth 100000
set_option linter.all false
namespace Go.Proofs.YtliebkfligagnaaGreatDoor
open Go.RowKit
theorem OE.up {w V:World} {base hi:Nat} {u:Value} {m:List Kx.Env} (h:OE w base hi u m) (hu:Up base w V):OE V base hi u m:=by
 obtain ⟨ss,hl,ho,hq,hs⟩:=h;exact ⟨ss,hl,⟨ho.1.up hu,ho.2⟩,fun i a b=>⟨(hq i a b).1,(hq i a b).2.1.up hu,(hq i a b).2.2⟩,hs⟩
theorem Aj {l:List Kx.aG} (h:jo l) {f:Nat} {x:Kx.aG} (hx:x.guard.size≤9223372036854775807):jo (l.set f x):=fun y hy=>by
 rcases List.mem_or_eq_of_mem_set hy with h1 | rfl
 ·exact h y h1
 exact hx
theorem G8 {l:List Kx.aG} (h:jo l) (f:Nat):(Kx.inf l f).guard.size≤9223372036854775807:=by
 by_cases hf:f<l.length
 ·have e:Kx.inf l f=l[f]:=by simp [Kx.inf,hf]
  rw [e];exact h _ (List.getElem_mem hf)
 have e:Kx.inf l f=Kx.aG.zero:=by unfold Kx.inf;rw [List.getD_eq_getElem?_getD,List.getElem?_eq_none (by omega)];rfl
 rw [e];decide
theorem Ak {l:List Kx.Env} (h:Am l) {e:Nat} {x:Kx.Env} (hx:Dw x.aB):Am (l.set e x):=fun i hi=>by
 rw [List.length_set] at hi
 by_cases he:i=e
 ·subst he;have e1:Kx.au (l.set i x) i=x:=by unfold Kx.au;rw [List.getD_eq_getElem?_getD,List.getElem?_set];simp [hi]
  rw [e1];exact hx
 have e1:Kx.au (l.set e x) i=Kx.au l i:=by unfold Kx.au;rw [List.getD_eq_getElem?_getD,List.getElem?_set,if_neg (fun h=>he h.symm),←List.getD_eq_getElem?_getD]
 rw [e1];exact h i hi
theorem E_ {l:List Kx.Env} (h:Am l) (n:Nat):Am (l.take n):=fun i hi=>by
 rw [List.length_take] at hi;have e1:Kx.au (l.take n) i=Kx.au l i:=by unfold Kx.au;rw [List.getD_eq_getElem?_getD,List.getElem?_take,if_pos (by omega),←List.getD_eq_getElem?_getD]
 rw [e1];exact h i (by omega)
theorem uo.take {w:World} {a:Option Addr} {n c:Nat} {es:List Kx.Env} (h:uo w (.slice a n c) es) (k:Nat) (hk:k≤n):uo w (.slice a k c) (es.take k):=by
 obtain ⟨ps,hl,hs,hr⟩:=h;refine ⟨ps.take k,by simp [hl],RS.take hs k hk,fun i h1 h2=>?_⟩
 rw [List.length_take] at h1 h2;rw [List.getElem_take,List.getElem_take];exact hr i (by omega) (by omega)
section
variable {w W V:World} {rb q q' g2 g3 base b:Nat} {v0 v1 v2 v3 u0 u1 u2 u3:Value} {k k':Kx.Kernel}
structure LO (w W:World) (rb q g2 g3 base:Nat) (k:Kx.Kernel) (v0 v1 v2 v3:Value):Prop where
 l:L0 w W rb q g2 g3 v0 v1 v2 v3
 hb:g3<base
 ko:KO W base v0 v1 v2 v3 k
theorem LO.pick (h:LO w W rb q g2 g3 base k v0 v1 v2 v3) (hr:RD V rb q') (hg:W.grownBy V (some rb)):LO w V rb q' g2 g3 base k v0 v1 v2 v3:=
 ⟨h.l.pick hr hg,h.hb,h.ko.up (Up.grown hg (fun g e=>by cases e;have:=h.l.h;have:=h.hb;omega))⟩
theorem LO.below (h:LO w W rb q g2 g3 base k v0 v1 v2 v3) (hb:Below W.heap.size W V):LO w V rb q g2 g3 base k v0 v1 v2 v3:=
 h.pick (h.l.r.keep hb) (grown_below hb ⟨hb.os,hb.tape,hb.output⟩)
theorem L0.set1 (h:L0 w W rb q g2 g3 v0 v1 v2 v3) (hb:g3<b) (i:Nat) (v:Value):L0 w (W.setCell ⟨b,i,none⟩ v) rb q g2 g3 v0 v1 v2 v3:=
 ⟨h.r.grown (aK W b i v) (fun k hk=>by cases hk;have:=h.h;omega),ed h.g (aK W b i v) (fun k hk=>by cases hk;have:=h.h;omega),h.x2.other (by have:=h.h;omega) i v,h.x3.other (by omega) i v,h.sl,h.h⟩
structure LA (w W:World) (rb q g2 g3:Nat) (k:Kx.Kernel) (v0 v1 v2 v3:Value):Prop where
 l:L0 w W rb q g2 g3 v0 v1 v2 v3
 f:∃ base hi,g2<base∧(g3<base∨hi≤g3)∧hi≤W.heap.size∧MP W base hi v0 v1 v2 v3 k
 PI:iQ k
theorem LO.la (h:LO w W rb q g2 g3 base k v0 v1 v2 v3) (hs:iQ k):LA w W rb q g2 g3 k v0 v1 v2 v3:=
 ⟨h.l,⟨base,W.heap.size,by have:=h.l.h;have:=h.hb;omega,.inl h.hb,Nat.le_refl _,h.ko.MQ.r⟩,hs⟩
theorem LK.la (h:LK w W rb q g2 g3 k v0 v1 v2 v3):LA w W rb q g2 g3 k v0 v1 v2 v3:=⟨h.l,h.f,jX h.ok⟩
theorem LA.fin (h:LA w W rb q g2 g3 k v0 v1 v2 v3):∃ base,g2<base∧Fa (sets W g2 0 [v0,v1,v2,v3]) base v0 v1 v2 v3 k∧RD (sets W g2 0 [v0,v1,v2,v3]) rb q∧w.grownBy (sets W g2 0 [v0,v1,v2,v3]) (some rb)∧BX (sets W g2 0 [v0,v1,v2,v3]) g2 36 [v0,v1,v2,v3]:=by
 obtain ⟨base,hi,h2,h3,h4,hk⟩:=h.f;have h1:=h.l.h;obtain ⟨a,b⟩:=mi (w:=w) (g:=g2) (by omega) (by omega) [v0,v1,v2,v3] 0 h.l.r h.l.g;exact ⟨base,h2,(hk.to (by rw [jB];exact Nat.le_refl _) (fun j a _=>mG _ _ (by omega) _ _)).MQ (by rw [jB];exact h4),a,b,h.l.x2.sets _ rfl⟩
end
def PK (rb p n:Nat) (w:World) (en:Ending) (w':World):Prop:=∃ (k:Kx.Kernel) (um ui ue uc:Value) (base:Nat),en=.returned (.agg #[um,ui,ue,uc])∧(Sl um∧Sl ui∧Sl ue∧Sl uc)∧iQ k∧w.heap.size≤base∧Fa w' base um ui ue uc k∧nP rb p n w w'
theorem JA (rb p:Nat) (w:World) (h:RD w rb p) (hp:p≤500000) :
  Calls Tryz.prog 66 #[.pointer (some ⟨rb,0,none⟩)] w (PK rb p 1200 w):=by
 have hrb:=h.lt;obtain ⟨w1,hw1⟩:∃ w1,w.alloc (.cells #[.slice none 0 0,.slice none 0 0,.slice none 0 0,.slice none 0 0] 36)=w1:=⟨_,rfl⟩;have B1:Below w.heap.size w w1:=hw1 ▸ dm;have s1:w.heap.size<w1.heap.size:=by rw [←hw1];simp
 have Hr:=af (h.keep B1);have Hg:=af (grown_below (rb:=rb) B1 ⟨B1.os,B1.tape,B1.output⟩);have hX2:=af (show BX w1 w.heap.size 36 [.slice none 0 0,.slice none 0 0,.slice none 0 0,.slice none 0 0] from (hw1 ▸ BX.new w _ _:BX w1 _ _ _));clear B1 h;go_enter Tryz.func66,Tryz.ntmps66;go_wp2_with fail;clear hw1;refine (Dx rb p w1 Hr.out (by omega)).mono ?_;rintro en w2 ⟨k,_,_,_,_,base,rfl,⟨⟨a0,n0,m0,rfl⟩,⟨a1,n1,m1,rfl⟩,⟨a2,n2,m2,rfl⟩,⟨a3,n3,m3,rfl⟩⟩,hok,hbase,hko,q,hq,hr,hg⟩;have hz2:=hg.size;obtain ⟨w3,hw3⟩:∃ V,w2.alloc (.cells #[.slice a0 n0 m0,.slice a1 n1 m1,.slice a2 n2 m2,.slice a3 n3 m3] 36)=V:=⟨_,rfl⟩;have B3:Below w2.heap.size w2 w3:=hw3 ▸ dm;have H:=af (show LK w w3 rb q w.heap.size w2.heap.size k (.slice a0 n0 m0) (.slice a1 n1 m1) (.slice a2 n2 m2) (.slice a3 n3 m3) from
  ⟨⟨hr.keep B3,grownBy_trans (grownBy_trans Hg.out hg) (grown_below (rb:=rb) B3 ⟨B3.os,B3.tape,B3.output⟩),BX.below (show BX w2 _ _ _ from (hg.block w.heap.size hX2.out.lt (by simp;omega)).trans hX2.out) B3,hw3 ▸ BX.new w2 _ _,⟨⟨_,_,_,rfl⟩,⟨_,_,_,rfl⟩,⟨_,_,_,rfl⟩,⟨_,_,_,rfl⟩⟩,by omega⟩,
   ⟨base,w2.heap.size,by omega,.inr aW,B3.size,hko.r.to B3.size (fun j _ b=>B3.block j b)⟩,hok⟩)
 obtain ⟨g3,hg3⟩:∃ g,w2.heap.size=g:=⟨_,rfl⟩;rw [hg3] at H;clear hko hr hg B3 Hr Hg hX2 hok hbase;go_wp2_with fail
 try rw [hw3]
 try rw [hg3]
 refine (aN rb _ 14 _ H.out.l.r (by omega) (by omega) (by omega)).mono ?_;rintro en w4 ⟨x,rfl,x0,x1,hr,hg⟩;replace H:=af (H.out.pick hr hg);clear hr hg hw3 hg3
 by_cases hx:x=0
 ·subst hx;have HC:=af (show Calls Tryz.prog 62 #[.agg #[.slice a0 n0 m0,.slice a1 n1 m1,.slice a2 n2 m2,.slice a3 n3 m3]] w4 _ from by obtain ⟨hl1,hl2,hl3,hl4,hl5⟩:=nR H.out.ok;exact vg k _ _ _ _ w4 H.out.rk hl1 hl2 hl3 hl4 hl5);have bF:=af H.out.ok;obtain ⟨c0,c1,c2,c3⟩:=H.out.l.x3.c4;go_wp2_with fail;refine HC.out.mono ?_;rintro en w5 ⟨_,_,_,_,rfl,ho,hb⟩;obtain ⟨⟨b0,xN,wL,rfl⟩,⟨b1,zH,xC,rfl⟩,⟨b2,wM,qB,rfl⟩,⟨b3,zI,zJ,rfl⟩⟩:=ho.sl;have h5:=H.out.l.below hb;have Vx:=H.out.l.x3.lt;have HO:=af (show LO w (sets w5 g3 0 [.slice b0 xN wL,.slice b1 zH xC,.slice b2 wM qB,.slice b3 zI zJ]) rb _ w.heap.size g3 w4.heap.size k (.slice b0 xN wL) (.slice b1 zH xC) (.slice b2 wM qB) (.slice b3 zI zJ) from ⟨h5.RQ ⟨⟨_,_,_,rfl⟩,⟨_,_,_,rfl⟩,⟨_,_,_,rfl⟩,⟨_,_,_,rfl⟩⟩,Vx,KO.sets aJ _ 0 h5.x3 ho⟩);clear c0 c1 c2 c3;obtain ⟨c0,c1,c2,c3⟩:=h5.x3.c4
  obtain ⟨y0,y1,y2,y3⟩:=h5.x3.f4;obtain ⟨w6,hw6⟩:∃ V,sets w5 g3 0 [.slice b0 xN wL,.slice b1 zH xC,.slice b2 wM qB,.slice b3 zI zJ]=V:=⟨_,rfl⟩;rw [hw6] at HO;clear ho hb h5 H HC;go_wp2_with fail;rw [show ((((w5.setCell ⟨g3,0,none⟩ (.slice b0 xN wL)).setCell ⟨g3,1,none⟩ (.slice b1 zH xC)).setCell ⟨g3,2,none⟩ (.slice b2 wM qB)).setCell ⟨g3,3,none⟩ (.slice b3 zI zJ))=w6 from hw6];clear hw6 c0 c1 c2 c3 y0 y1 y2 y3;refine (aN rb _ 12 _ HO.out.l.r (by omega) (by omega) (by omega)).mono ?_;rintro en w7 ⟨f,rfl,f0,f1,hr,hg⟩;replace HO:=af (HO.out.pick hr hg);obtain ⟨f,rfl⟩:=Int.eq_ofNat_of_zero_le f0;clear hr hg;go_wp2_with fail;refine (aN rb _ 7 _ HO.out.l.r (by omega) (by omega) (by omega)).mono ?_;rintro en w8 ⟨y,rfl,ZP,ZQ,hr,hg⟩;replace HO:=af (HO.out.pick hr hg);clear hr hg;obtain ⟨hmo,jI,h12,_,h3,_⟩:=aI bF.out
  have kX:=af (Kx.jC.1 hmo).1;have fJ:=af h12;have H3:=af h3;have Hs:=af (jX bF.out);have dG:f<12:=by omega
  clear hmo jI h12 h3;go_upto_block 0 with fail;go_cut [4] from 5 (fun _ wx=>∃ (q:Nat) (k:Kx.Kernel) (v0 v1 v2 v3:Value),q≤p+1150∧Hid (LA w wx rb q w.heap.size g3 k v0 v1 v2 v3))
  case first =>
   by_cases k0:y=0
   ·subst k0;obtain ⟨d,hd⟩:∃ d,w8.drew=d:=⟨_,rfl⟩;have Bd:Below w8.heap.size w8 d:=hd ▸ Below.bz fZ;have Hd:=af hd;replace HO:=af (HO.out.below Bd);clear hd Bd;go_wp2_with fail;have hrow4:(Kx.row k.mem f).length=4:=by
     obtain ⟨hmo,_⟩:=aI bF.out;exact (mem_row hmo dG).2.1
    have JB:=af hrow4;clear hrow4;have zO:=af (fun (V:World) (a:Nat) (h:KO V w4.heap.size (.slice b0 xN wL) (.slice b1 zH xC) (.slice b2 wM qB) (.slice b3 zI zJ) k) (ha:a<4)=>KO.bG h (f:=f) (a:=a) (by rw [kX.out];exact dG) (by rw [JB.out];exact ha))
    obtain ⟨mb,mc,mg,ZR,e1,e2,_⟩:=zO.out d 0 HO.out.ko (by decide);rw [kX.out] at e1;simp only [Value.slice.injEq] at e1;obtain ⟨rfl,rfl,rfl⟩:=e1;rw [JB.out] at e2;have E2:=af e2;clear e2;have hmb:=af (show mb≠rb∧mb<d.heap.size from ⟨by
      have h1:=HO.out.hb;have h2:=HO.out.l.h;obtain ⟨b',c',g',c2',e,_,h4,_⟩:=HO.out.ko.m.bG (f:=f) (a:=0) (by rw [kX.out];exact dG) (by rw [JB.out];decide);obtain ⟨b'',c'',e',h5,h6⟩:=(show ∃ b'' c'',(Value.slice (some ⟨mb,0,none⟩) 12 wL)=.slice (some ⟨b'',0,none⟩) 12 c''∧w4.heap.size≤b''∧b''<d.heap.size from by
       obtain ⟨ss,hl,ho,_⟩:=HO.out.ko.m;obtain ⟨g,cp,e,h7,h8⟩:=ho.1.shape (by rw [hl,kX.out];decide);rw [hl,kX.out] at e;exact ⟨g,cp,e,h7,h8⟩)
      simp only [Value.slice.injEq,Option.some.injEq,Addr.mk.injEq] at e';omega,by
      obtain ⟨ss,hl,ho,_⟩:=HO.out.ko.m;obtain ⟨g,cp,e,h7,h8⟩:=ho.1.shape (by rw [hl,kX.out];decide);simp only [Value.slice.injEq,Option.some.injEq,Addr.mk.injEq] at e;omega⟩)
    refine uu (S:=(fun U:World=>U.cell? ⟨g3,0,none⟩=some (.slice (some ⟨mb,0,none⟩) 12 wL)∧U.cell? ⟨mb,f,none⟩=some (.slice (some ⟨mg,0,none⟩) 4 ZR))) (xs:=[11]) (by kernel_rfl) (by rw [Hd.out];exact ⟨HO.out.l.x3.cell 0,E2.out⟩) (fun hHeld=>?_)
    rw [Hd.out];rw [Hd.out] at hHeld;refine tP 0 ?_;refine tL 1 ?_;refine tP 2 ?_;refine tP 3 ?_;refine tL 4 ?_;refine tP 5 ?_;refine tP 7 ?_;refine lI 6 (by kernel_rfl) rfl (fun K hK=>?_);rw [if_pos (by rfl)];go_simp;go_at_call 67;refine (aN rb _ 4 _ HO.out.l.r (by omega) (by omega) (by omega)).mono ?_;rintro en V1 ⟨xa,rfl,xa0,UE,hr,hg⟩;have H1:=af (HO.out.pick hr hg);obtain ⟨xa,rfl⟩:=Int.eq_ofNat_of_zero_le xa0;have E3:=af ((World.cell?_of_block (hg.block mb hmb.out.2 (by have:=hmb.out.1;simpa using this)) (a:=⟨mb,f,none⟩)).trans E2.out);have Vy:=af (Nat.lt_of_lt_of_le hmb.out.2 hg.size);clear hr hg;refine hK.out _ _ ?_ (fun hHeld=>?_)
    ·exact ⟨H1.out.l.x3.cell 0,E3.out⟩
    clear hK K;refine nL ?_;refine lI 8 (by kernel_rfl) rfl (fun K hK=>?_);rw [if_pos (by rfl)];go_simp;go_at_call 119;refine (yz rb _ _ H1.out.l.r (by omega)).mono ?_;rintro en V2 ⟨xe,rfl,q2,hq2,hr,hg⟩;have H2:=af (H1.out.pick hr hg);have E4:=af ((World.cell?_of_block (hg.block mb Vy.out (by have:=hmb.out.1;simpa using this)) (a:=⟨mb,f,none⟩)).trans E3.out);clear hr hg;refine hK.out _ _ ?_ (fun hHeld=>?_)
    ·exact ⟨H2.out.l.x3.cell 0,E4.out⟩
    clear hK K;refine nL ?_;refine tP 9 ?_;refine tP 10 ?_;obtain ⟨b',c',g',c2',e1,e2,hge,_,_,⟨z,hz⟩,hfz,hK⟩:=zO.out V2 xa H2.out.ko (by omega);have hgb:=af (show mg=g' by
     have h1:=E4.out;simp only [Value.slice.injEq,Option.some.injEq,Addr.mk.injEq] at e1;obtain ⟨⟨rfl,_⟩,_⟩:=e1;rw [e2] at h1;simp only [Option.some.injEq,Value.slice.injEq,Addr.mk.injEq] at h1;exact h1.1.1.symm)
    obtain rfl:=hgb.out;have HK:=af hK;have Vz:=af hge;clear hK e1 e2 hge;refine lN 11 (by rfl) (by kernel_rfl) rfl (fun K hK=>?_);rw [if_pos (by rfl)];go_simp;refine hK.out _ _ ?_;clear hK K;refine nL ?_;refine gY (by kernel_rfl) ?_ _;go_wp2_with fail;go_meet;exact ⟨_,_,_,_,_,_,by omega,af (LO.la ⟨H2.out.l.set1 (by have:=H2.out.hb;have:=Vz.out;omega) _ _,H2.out.hb,HK.out _⟩ Hs.out)⟩
   have n0:(y==0)=false:=by simpa using k0
   clear k0
   by_cases k1:y=1
   ·subst k1;obtain ⟨d,hd⟩:∃ d,w8.drew=d:=⟨_,rfl⟩;have Bd:Below w8.heap.size w8 d:=hd ▸ Below.bz fZ;have Hd:=af hd;replace HO:=af (HO.out.below Bd);clear hd Bd;go_wp2_with fail;obtain ⟨ib,ic,ei,VA,VB⟩:=HO.out.ko.i.shape (by rw [fJ.out];decide);rw [fJ.out] at ei;simp only [Value.slice.injEq] at ei;obtain ⟨rfl,rfl,rfl⟩:=ei;refine uu (S:=(fun U:World=>U.cell? ⟨g3,1,none⟩=some (.slice (some ⟨ib,0,none⟩) 12 xC))) (xs:=[6]) (by kernel_rfl) (by rw [Hd.out];exact HO.out.l.x3.cell 1) (fun hHeld=>?_)
    rw [Hd.out];rw [Hd.out] at hHeld;refine tP 0 ?_;refine tL 1 ?_;refine tP 2 ?_;refine tP 3 ?_;refine lI 4 (by kernel_rfl) rfl (fun K hK=>?_);rw [if_pos (by rfl)];go_simp;go_at_call 120;refine (G9 rb _ _ HO.out.l.r (by omega)).mono ?_;rintro en V1 ⟨xi,rfl,hxi,q2,hq2,hr,hg⟩;have H1:=af (HO.out.pick hr hg);clear hr hg;unfold kN;refine hK.out _ _ ?_ (fun hHeld=>?_)
    ·exact H1.out.l.x3.cell 1
    clear hK K;refine nL ?_;refine tP 5 ?_;have O1:=H1.out.ko.i;obtain ⟨⟨z0,hz0⟩,hf0⟩:=O1.bP f (by rw [fJ.out];exact dG) 0 (by decide);obtain ⟨⟨z1,hz1⟩,hf1⟩:=O1.bP f (by rw [fJ.out];exact dG) 1 (by decide);obtain ⟨⟨z2,hz2⟩,hf2⟩:=O1.bP f (by rw [fJ.out];exact dG) 2 (by decide);rw [Nat.add_zero] at hz0 hf0;obtain ⟨hO2,hG2⟩:=O1.jy fJ.out f xi (by rw [fJ.out];exact dG);have hkd:∃ cs,V1.heap[ib]?=some (.cells cs 108 (0,0)):=O1.kind rfl;have HF:=af (show LA w (((V1.setCell ⟨ib,f*3,none⟩ (.int .i64 xi.kind)).setCell ⟨ib,f*3+1,none⟩ (.string xi.guard)).setCell ⟨ib,f*3+2,none⟩ (.int .i64 xi.refs)) rb q2 w.heap.size g3 { k with ag:=k.ag.set f xi } (.slice b0 xN wL) (.slice (some ⟨ib,0,none⟩) 12 xC) (.slice b2 wM qB) (.slice b3 zI zJ) from by
     obtain ⟨cs,hkd⟩:=hkd;have hgi:g3<ib:=by have:=H1.out.hb;omega
     refine LO.la (base:=w4.heap.size) ⟨((H1.out.l.set1 hgi _ _).set1 hgi _ _).set1 hgi _ _,H1.out.hb,?_,hO2,?_,?_⟩ ⟨Aj Hs.out.1 (by omega),Hs.out.2⟩
     ·have:=H1.out.ko.m.dh hG2 hkd (by decide) (by decide)
      rw [show (((V1.setCell ⟨ib,f*3,none⟩ (.int .i64 xi.kind)).setCell ⟨ib,f*3+1,none⟩ (.string xi.guard)).setCell ⟨ib,f*3+2,none⟩ (.int .i64 xi.refs)).heap.size=V1.heap.size by simp [World.setCell]];exact this
     ·have:=H1.out.ko.e.dh hG2 hkd (by decide) (by decide)
      rw [show (((V1.setCell ⟨ib,f*3,none⟩ (.int .i64 xi.kind)).setCell ⟨ib,f*3+1,none⟩ (.string xi.guard)).setCell ⟨ib,f*3+2,none⟩ (.int .i64 xi.refs)).heap.size=V1.heap.size by simp [World.setCell]];exact this
     exact H1.out.ko.c.dh hG2 hkd (by decide))
    clear O1 hO2 hG2 hkd;refine lN 6 (by rfl) (by kernel_rfl) rfl (fun K hK=>?_);rw [if_pos (by rfl)];go_simp;refine hK.out _ _ ?_;clear hK K;refine nL ?_;refine gY (by kernel_rfl) ?_ _;go_wp2_with fail;go_meet;exact ⟨_,_,_,_,_,_,by omega,HF⟩
   have n1:(y==1)=false:=by simpa using k1
   clear k1
   by_cases k2:y=2
   ·subst k2;have zO:=af (fun (V:World) (h:KO V w4.heap.size (.slice b0 xN wL) (.slice b1 zH xC) (.slice b2 wM qB) (.slice b3 zI zJ) k)=>KO.aF h (f:=f) (by rw [fJ.out];exact dG))
    obtain ⟨ib,ic,ei,VA,VB,_,⟨z,hz⟩,hfz,hcz,hK⟩:=zO.out w8 HO.out.ko;rw [fJ.out] at ei;simp only [Value.slice.injEq] at ei;obtain ⟨rfl,rfl,rfl⟩:=ei;have VC:=af (HO.out.below (Below.bz (Below.refl w8.heap.size w8)));have ZT:=af (show ∀ x,KO (w8.drew.setCell ⟨ib,f*3+2,none⟩ (.int .i64 x)) w4.heap.size (.slice b0 xN wL) (.slice (some ⟨ib,0,none⟩) 12 xC) (.slice b2 wM qB) (.slice b3 zI zJ) { k with ag:=k.ag.set f { Kx.inf k.ag f with refs:=x } } from fun x=>by
     obtain ⟨ib2,ic2,Oc,_,_,_,_,_,_,hK2⟩:=zO.out w8.drew VC.out.ko;simp only [Value.slice.injEq,Option.some.injEq,Addr.mk.injEq] at Oc;obtain ⟨⟨rfl,_⟩,_⟩:=Oc;exact hK2 x)
    have hrr:=(Kx.kz.1 (aI bF.out).2.1).2 f (by omega);have PL:(Kx.inf k.ag f).refs≤50∧0≤(Kx.inf k.ag f).refs:=by
     rcases Kx.gZ.1 hrr with h0 | h0
     ·rw [h0];decide
     have:=h0.2.2.2;first | (have:=Kx.ay.1 this;omega) | omega
    obtain ⟨PL,hr0⟩:=PL;generalize hrf:(Kx.inf k.ag f).refs=rf at hcz PL hr0;have p1:=HO.out.l.x3.cell 1;simp only [List.getElem?_cons_zero,List.getElem?_cons_succ] at p1;clear hK hrr hrf hz;go_wp2_with fail;go_still_tail 12,(by kernel_rfl)
    go_wp2_with fail;go_meet;exact ⟨_,_,_,_,_,_,by omega,af (LO.la ⟨VC.out.l.set1 (by have:=HO.out.hb;omega) _ _,VC.out.hb,ZT.out _⟩ ⟨Aj Hs.out.1 (G8 Hs.out.1 f),Hs.out.2⟩)⟩
   have n2:(y==2)=false:=by simpa using k2
   clear k2
   by_cases k3:y=3
   ·subst k3;obtain ⟨d,hd⟩:∃ d,w8.drew=d:=⟨_,rfl⟩;have Bd:Below w8.heap.size w8 d:=hd ▸ Below.bz fZ;have Hd:=af hd;replace HO:=af (HO.out.below Bd);clear hd Bd;go_wp2_with fail;obtain ⟨eb,ec,ei,heb⟩:=(show ∃ b c,(.slice b2 wM qB:Value)=.slice (some ⟨b,0,none⟩) k.ah.length c∧w4.heap.size≤b from by obtain ⟨b,c,h1,h2,_⟩:=HO.out.ko.dE (e:=0) (by rw [H3.out];decide);exact ⟨b,c,h1,h2⟩);rw [H3.out] at ei;simp only [Value.slice.injEq] at ei;obtain ⟨rfl,rfl,rfl⟩:=ei;refine uu (S:=(fun U:World=>U.cell? ⟨g3,2,none⟩=some (.slice (some ⟨eb,0,none⟩) 3 qB))) (xs:=[9]) (by kernel_rfl) (by rw [Hd.out];exact HO.out.l.x3.cell 2) (fun hHeld=>?_)
    rw [Hd.out];rw [Hd.out] at hHeld;refine tP 0 ?_;refine tL 1 ?_;refine tP 2 ?_;refine tP 4 ?_;refine lI 3 (by kernel_rfl) rfl (fun K hK=>?_);rw [if_pos (by rfl)];go_simp;go_at_call 67;refine (aN rb _ 3 _ HO.out.l.r (by omega) (by omega) (by omega)).mono ?_;rintro en V1 ⟨xa,rfl,xa0,UE,hr,hg⟩;have H1:=af (HO.out.pick hr hg);obtain ⟨xa,rfl⟩:=Int.eq_ofNat_of_zero_le xa0;clear hr hg;refine hK.out _ _ ?_ (fun hHeld=>?_)
    ·exact H1.out.l.x3.cell 2
    clear hK K;refine nL ?_;refine lI 5 (by kernel_rfl) rfl (fun K hK=>?_);rw [if_pos (by rfl)];go_simp;go_at_call 67;refine (aN rb _ 13 _ H1.out.l.r (by omega) (by omega) (by omega)).mono ?_;rintro en V2 ⟨xb,rfl,ZU,ZV,hr,hg⟩;have H2:=af (H1.out.pick hr hg);clear hr hg;refine hK.out _ _ ?_ (fun hHeld=>?_)
    ·exact H2.out.l.x3.cell 2
    clear hK K;refine nL ?_;have RU:xa<3:=by omega
    refine tP 6 ?_;refine tP 7 ?_;refine tP 8 ?_;obtain ⟨ZW,ZX,Oc,_,_,_,⟨z,hz⟩,hfz,hK⟩:=H2.out.ko.dE (e:=xa) (by rw [H3.out];omega);simp only [Value.slice.injEq,Option.some.injEq,Addr.mk.injEq] at Oc;obtain ⟨⟨rfl,_⟩,hq3,hq4⟩:=Oc;clear hq3 hq4;have HK:=af hK;clear hK;refine lN 9 (by rfl) (by kernel_rfl) rfl (fun K hK=>?_);rw [if_pos (by rfl)];go_simp;refine hK.out _ _ ?_;clear hK K;refine nL ?_;refine gY (by kernel_rfl) ?_ _;go_wp2_with fail;go_meet;exact ⟨_,_,_,_,_,_,by omega,af (LO.la ⟨H2.out.l.set1 (by have:=H2.out.hb;omega) _ _,H2.out.hb,HK.out _⟩ ⟨Hs.out.1,Ak Hs.out.2 (by by_cases he:xa<k.ah.length;exact Hs.out.2 xa he;exact absurd (by rw [H3.out];omega) he)⟩)⟩
   have n3:(y==3)=false:=by simpa using k3
   clear k3
   by_cases k4:y=4
   ·subst k4;obtain ⟨d,hd⟩:∃ d,w8.drew=d:=⟨_,rfl⟩;have Bd:Below w8.heap.size w8 d:=hd ▸ Below.bz fZ;have Hd:=af hd;replace HO:=af (HO.out.below Bd);clear hd Bd;go_wp2_with fail;obtain ⟨eb,ec,ei,heb⟩:=(show ∃ b c,(.slice b2 wM qB:Value)=.slice (some ⟨b,0,none⟩) k.ah.length c∧w4.heap.size≤b from by obtain ⟨b,c,h1,h2,_⟩:=HO.out.ko.dE (e:=0) (by rw [H3.out];decide);exact ⟨b,c,h1,h2⟩);rw [H3.out] at ei;simp only [Value.slice.injEq] at ei;obtain ⟨rfl,rfl,rfl⟩:=ei;refine uu (S:=(fun U:World=>U.cell? ⟨g3,2,none⟩=some (.slice (some ⟨eb,0,none⟩) 3 qB))) (xs:=[8]) (by kernel_rfl) (by rw [Hd.out];exact HO.out.l.x3.cell 2) (fun hHeld=>?_)
    rw [Hd.out];rw [Hd.out] at hHeld;refine tP 0 ?_;refine tL 1 ?_;refine tP 2 ?_;refine tP 4 ?_;refine lI 3 (by kernel_rfl) rfl (fun K hK=>?_);rw [if_pos (by rfl)];go_simp;go_at_call 67;refine (aN rb _ 3 _ HO.out.l.r (by omega) (by omega) (by omega)).mono ?_;rintro en V1 ⟨xa,rfl,xa0,UE,hr,hg⟩;have H1:=af (HO.out.pick hr hg);obtain ⟨xa,rfl⟩:=Int.eq_ofNat_of_zero_le xa0;clear hr hg;refine hK.out _ _ ?_ (fun hHeld=>?_)
    ·exact H1.out.l.x3.cell 2
    clear hK K;refine nL ?_;refine lI 5 (by kernel_rfl) rfl (fun K hK=>?_);rw [if_pos (by rfl)];go_simp;go_at_call 121;refine (Dy rb _ _ H1.out.l.r (by omega)).mono ?_;rintro en V2 ⟨_,xr,rfl,hor,hxr,q2,hq2,hr,hg⟩;have H2:=af (H1.out.pick hr hg);have HE2:=af (show OE V2 w4.heap.size V1.heap.size _ k.ah from H1.out.ko.e.up (Up.grown hg (fun g e=>by cases e;have:=H1.out.l.h;have:=H1.out.hb;omega)));obtain ⟨ra,rc,rfl,_,_⟩:=RS.val hor.rs;have HOr:=af hor;have PM:=af hg.size;have PN:=af (show w4.heap.size≤V1.heap.size from by have:=H1.out.ko.e;obtain ⟨b,c,_,h2,h3,_⟩:=H1.out.ko.dE (e:=0) (by rw [H3.out];decide);omega);clear hr hg hor;refine hK.out _ _ ?_ (fun hHeld=>?_)
    ·exact H2.out.l.x3.cell 2
    clear hK K;refine nL ?_;have RU:xa<3:=by omega
    refine tP 6 ?_;refine tP 7 ?_;obtain ⟨ZW,ZX,Oc,_,_,_,⟨z,hz⟩,hfz,hK⟩:=H2.out.ko.aY HE2.out PN.out PM.out (e:=xa) (by rw [H3.out];omega) ⟨ra,xr.length,rc⟩ xr HOr.out;simp only [Value.slice.injEq,Option.some.injEq,Addr.mk.injEq] at Oc;obtain ⟨⟨rfl,_⟩,hq3,hq4⟩:=Oc;clear hq3 hq4;have HK:=af (show KO (V2.setCell ⟨eb,xa*2,none⟩ (.slice ra xr.length rc)) _ _ _ _ _ _ from hK);clear hK;refine lN 8 (by rfl) (by kernel_rfl) rfl (fun K hK=>?_);rw [if_pos (by rfl)];go_simp;refine hK.out _ _ ?_;clear hK K;refine nL ?_;refine gY (by kernel_rfl) ?_ _;go_wp2_with fail;go_meet;exact ⟨_,_,_,_,_,_,by omega,af (LO.la ⟨H2.out.l.set1 (by have:=H2.out.hb;omega) _ _,H2.out.hb,HK.out⟩ ⟨Hs.out.1,Ak Hs.out.2 (fun s hs=>Nat.le_trans (hxr s hs) (by decide))⟩)⟩
   have n4:(y==4)=false:=by simpa using k4
   clear k4
   by_cases k5:y=5
   ·subst k5;go_wp2_with fail;refine (Fb rb _ _ HO.out.l.r (by omega)).mono ?_;rintro en V1 ⟨_,xc,rfl,hoc,q2,hq2,hr,hg⟩;have H1:=af (HO.out.pick hr hg);obtain ⟨ca,cc,rfl,_,_⟩:=RS.val hoc.rs;have Yg:w4.heap.size≤w8.heap.size:=by obtain ⟨b,c,_,h2,h3,_⟩:=HO.out.ko.dE (e:=0) (by rw [H3.out];decide);omega
    have HF:=af (show LA w (V1.setCell ⟨g3,3,none⟩ (.slice ca xc.length cc)) rb q2 w.heap.size g3 { k with cache:=xc } (.slice b0 xN wL) (.slice b1 zH xC) (.slice b2 wM qB) (.slice ca xc.length cc) from by
     have hl:=H1.out.l;have hkx:KO V1 w4.heap.size (.slice b0 xN wL) (.slice b1 zH xC) (.slice b2 wM qB) (.slice ca xc.length cc) { k with cache:=xc }:=⟨H1.out.ko.m,H1.out.ko.i,H1.out.ko.e,hoc.mono Yg⟩;refine LO.la (base:=w4.heap.size) ⟨⟨hl.r.grown (aK V1 g3 3 _) (fun k hk=>by cases hk;have:=hl.h;omega),ed hl.g (aK V1 g3 3 _) (fun k hk=>by cases hk;have:=hl.h;omega),hl.x2.other (by have:=hl.h;omega) 3 _,hl.x3.set 3 _,⟨⟨_,_,_,rfl⟩,⟨_,_,_,rfl⟩,⟨_,_,_,rfl⟩,⟨_,_,_,rfl⟩⟩,hl.h⟩,H1.out.hb,hkx.box hl.x3 aJ 3 _⟩ Hs.out)
    obtain ⟨c0,c1,c2,c3⟩:=H1.out.l.x3.c4;obtain ⟨y0,y1,y2,y3⟩:=H1.out.l.x3.f4;clear hr hg hoc;go_wp2_with fail;go_meet;exact ⟨_,_,_,_,_,_,by omega,HF⟩
   have n5:(y==5)=false:=by simpa using k5
   clear k5;obtain rfl:y=6:=by simp only [beq_eq_false_iff_ne] at n0 n1 n2 n3 n4 n5;omega
   obtain ⟨d,hd⟩:∃ d,w8.drew=d:=⟨_,rfl⟩;have Bd:Below w8.heap.size w8 d:=hd ▸ Below.bz fZ;have Hd:=af hd;replace HO:=af (HO.out.below Bd);clear hd Bd;go_wp2_with fail;obtain ⟨eb,ec,ei,heb⟩:=(show ∃ b c,(.slice b2 wM qB:Value)=.slice (some ⟨b,0,none⟩) k.ah.length c∧k.ah.length≤c from by obtain ⟨_,a,c,h1,h2,_⟩:=HO.out.ko.e.re.len;obtain ⟨b,c',h3,_⟩:=HO.out.ko.dE (e:=0) (by rw [H3.out];decide);refine ⟨b,c',h3,?_⟩;rw [h3] at h1;simp only [Value.slice.injEq] at h1;omega);rw [H3.out] at ei heb;simp only [Value.slice.injEq] at ei;obtain ⟨rfl,rfl,rfl⟩:=ei;refine uu (S:=(fun U:World=>U.cell? ⟨g3,2,none⟩=some (.slice (some ⟨eb,0,none⟩) 3 qB))) (xs:=[6]) (by kernel_rfl) (by rw [Hd.out];exact HO.out.l.x3.cell 2) (fun hHeld=>?_)
   rw [Hd.out];rw [Hd.out] at hHeld;refine tP 0 ?_;refine tL 1 ?_;refine tP 2 ?_;refine lI 3 (by kernel_rfl) rfl (fun K hK=>?_);rw [if_pos (by rfl)];go_simp;go_at_call 67;refine (aN rb _ 3 _ HO.out.l.r (by omega) (by omega) (by omega)).mono ?_;rintro en V1 ⟨xa,rfl,xa0,UE,hr,hg⟩;have H1:=af (HO.out.pick hr hg);obtain ⟨xa,rfl⟩:=Int.eq_ofNat_of_zero_le xa0;clear hr hg;refine hK.out _ _ ?_ (fun hHeld=>?_)
   ·exact H1.out.l.x3.cell 2
   clear hK K;refine nL ?_;have RU:xa<3:=by omega
   have ZY:xa≤qB:=by omega
   have Yh:(xa:Int)≤(qB:Int):=by omega
   refine tP 4 ?_;refine tP 5 ?_;have HF:=af (show LA w (V1.setCell ⟨g3,2,none⟩ (.slice (some ⟨eb,0,none⟩) xa qB)) rb _ w.heap.size g3 { k with ah:=k.ah.take xa } (.slice b0 xN wL) (.slice b1 zH xC) (.slice (some ⟨eb,0,none⟩) xa qB) (.slice b3 zI zJ) from by
    have hl:=H1.out.l;have hkx:=H1.out.ko.box hl.x3 aJ 2 (.slice (some ⟨eb,0,none⟩) xa qB);refine ⟨⟨hl.r.grown (aK V1 g3 2 _) (fun k hk=>by cases hk;have:=hl.h;omega),ed hl.g (aK V1 g3 2 _) (fun k hk=>by cases hk;have:=hl.h;omega),hl.x2.other (by have:=hl.h;omega) 2 _,hl.x3.set 2 _,⟨⟨_,_,_,rfl⟩,⟨_,_,_,rfl⟩,⟨_,_,_,rfl⟩,⟨_,_,_,rfl⟩⟩,hl.h⟩,⟨w4.heap.size,(V1.setCell ⟨g3,2,none⟩ (.slice (some ⟨eb,0,none⟩) xa qB)).heap.size,by have:=hl.h;have:=H1.out.hb;omega,.inl H1.out.hb,Nat.le_refl _,fun V hs hk=>?_⟩,⟨Hs.out.1,E_ Hs.out.2 xa⟩⟩
    have h:=hkx.MQ.r V hs hk;exact ⟨h.m,h.i,h.e.take xa (by omega),h.c⟩)
   obtain ⟨c0,c1,c2,c3⟩:=H1.out.l.x3.c4;obtain ⟨y0,y1,y2,y3⟩:=H1.out.l.x3.f4;refine lN 6 (by rfl) (by kernel_rfl) rfl (fun K hK=>?_);rw [if_pos (by rfl)];go_simp;refine hK.out _ _ ?_;clear hK K;refine nL ?_;refine gY (by kernel_rfl) ?_ _;go_wp2_with fail;go_meet;exact ⟨_,_,_,_,_,_,by omega,HF⟩
  case rest =>
   clear HO;obtain ⟨q,k,v0,v1,v2,v3,hq,H⟩:=hcut;obtain ⟨⟨a0,n0,m0,rfl⟩,⟨a1,n1,m1,rfl⟩,⟨a2,n2,m2,rfl⟩,⟨a3,n3,m3,rfl⟩⟩:=H.out.l.sl;obtain ⟨JC,yA,hko,hrd,hgr,hbx⟩:=H.out.fin;have tZ:=af hko;have Oe:=af hrd;have JD:=af hgr;have jF:=af hbx;have VD:=af H.out.PI;have aC:=af yA;obtain ⟨c0,c1,c2,c3⟩:=H.out.l.x3.c4;obtain ⟨r0,r1,r2,r3⟩:=H.out.l.x2.c4;obtain ⟨jh,ji,jk,jl⟩:=H.out.l.x2.f4;clear hko hrd hgr hbx yA;go_wp2_with fail;obtain ⟨F,hF⟩:∃ V,sets wc w.heap.size 0 [.slice a0 n0 m0,.slice a1 n1 m1,.slice a2 n2 m2,.slice a3 n3 m3]=V:=⟨_,rfl⟩;rw [show ((((wc.setCell ⟨w.heap.size,0,none⟩ (.slice a0 n0 m0)).setCell ⟨w.heap.size,1,none⟩ (.slice a1 n1 m1)).setCell ⟨w.heap.size,2,none⟩ (.slice a2 n2 m2)).setCell ⟨w.heap.size,3,none⟩ (.slice a3 n3 m3))=F from hF];rw [hF] at tZ Oe JD jF;obtain ⟨e0,e1,e2,e3⟩:=jF.out.c4
   refine bodyPost_ret (v:=.agg #[.slice a0 n0 m0,.slice a1 n1 m1,.slice a2 n2 m2,.slice a3 n3 m3]) (by simp [results,Tryz.results66,go_sem,e0,e1,e2,e3]) rfl ?_;exact ⟨_,_,_,_,_,JC,rfl,⟨⟨_,_,_,rfl⟩,⟨_,_,_,rfl⟩,⟨_,_,_,rfl⟩,⟨_,_,_,rfl⟩⟩,VD.out,Nat.le_of_lt aC.out,tZ.out,_,by omega,Oe.out,JD.out⟩
 have hx1:0<x:=by omega
 replace H:=af H.out.la;obtain ⟨JC,yA,hko,hrd,hgr,hbx⟩:=H.out.fin;have tZ:=af hko;have Oe:=af hrd;have JD:=af hgr;have jF:=af hbx;have VD:=af H.out.PI;have aC:=af yA;obtain ⟨c0,c1,c2,c3⟩:=H.out.l.x3.c4;obtain ⟨r0,r1,r2,r3⟩:=H.out.l.x2.c4;obtain ⟨jh,ji,jk,jl⟩:=H.out.l.x2.f4;clear hko hrd hgr hbx yA;go_wp2_with fail;obtain ⟨F,hF⟩:∃ V,sets w4 w.heap.size 0 [.slice a0 n0 m0,.slice a1 n1 m1,.slice a2 n2 m2,.slice a3 n3 m3]=V:=⟨_,rfl⟩;rw [show ((((w4.setCell ⟨w.heap.size,0,none⟩ (.slice a0 n0 m0)).setCell ⟨w.heap.size,1,none⟩ (.slice a1 n1 m1)).setCell ⟨w.heap.size,2,none⟩ (.slice a2 n2 m2)).setCell ⟨w.heap.size,3,none⟩ (.slice a3 n3 m3))=F from hF];rw [hF] at tZ Oe JD jF;obtain ⟨e0,e1,e2,e3⟩:=jF.out.c4
 refine bodyPost_ret (v:=.agg #[.slice a0 n0 m0,.slice a1 n1 m1,.slice a2 n2 m2,.slice a3 n3 m3]) (by simp [results,Tryz.results66,go_sem,e0,e1,e2,e3]) rfl ?_;exact ⟨_,_,_,_,_,JC,rfl,⟨⟨_,_,_,rfl⟩,⟨_,_,_,rfl⟩,⟨_,_,_,rfl⟩,⟨_,_,_,rfl⟩⟩,VD.out,Nat.le_of_lt aC.out,tZ.out,_,by omega,Oe.out,JD.out⟩
def YesB (w:World) (e:Ending) (w':World):Prop:=e=.returned (.bool true)∧Below w.heap.size w w'
def Yi (w:World) (en:Ending) (w':World):Prop:=∃ (k:Kx.Kernel) (um ui ue uc:Value),en=.returned (.agg #[um,ui,ue,uc])∧(Sl um∧Sl ui∧Sl ue∧Sl uc)∧iQ k∧RK w' um ui ue uc k∧Below w.heap.size w w'
end Go.Proofs.YtliebkfligagnaaGreatDoor
