/- KD23, KD25, joined. -/
import Derived.Test.YtecnmehlbfklnaaGreatDoorKDf
set_option maxHeartbeats 8000000
set_option maxRecDepth 100000
set_option linter.all false
open Nat renaming le_trans->A1,le_refl->A2
open Go.Value renaming slice->A0
open Go.Proofs.Tryz
namespace Go.Proofs.YtecnmehlbfklnaaGreatDoor
open Go.RowKit Kx
section
variable {P:Program} {ops:Array Oper} {Q:Exit->Act->World->Prop} {md:Region.Mode} {S S':World->Prop} {xs:List Nat}
end
structure LD (w W:World) (rb q g2 g5:Nat) (k:Kx.Kernel) (v0 v1 v2 v3:Value):Prop where
 b:Below w.heap.size w W
 r:RD W rb q
 x2:BX W g2 28 [A0 none 0 0,A0 none 0 0,A0 none 0 0,A0 none 0 0]
 x5:BX W g5 28 [v0,v1,v2,v3]
 f:∃ base hi,rb<base/\hi<=g5/\hi<=W.heap.size/\MP W base hi v0 v1 v2 v3 k
 s:iQ k
 h:w.heap.size<=g2/\g2<rb/\rb<g5
section
variable {w W V:World} {rb q q' g2 g5:Nat} {k:Kx.Kernel} {v0 v1 v2 v3:Value}
theorem LD.pick (h:LD w W rb q g2 g5 k v0 v1 v2 v3) (hr:RD V rb q') (hg:W.grownBy V (some rb)):LD w V rb q' g2 g5 k v0 v1 v2 v3:=by
 obtain ⟨base,hi,h2,h3,h4,hk⟩:=h.f;have hh:=h.h;exact ⟨h.b.grown hg h.b.size (fun k hk=>by cases hk;omega),hr,(hg.block g2 h.x2.lt (by simp;omega)).trans h.x2,(hg.block g5 h.x5.lt (by simp;omega)).trans h.x5,⟨base,hi,h2,h3,A1 h4 hg.size,hk.to hg.size (fun j a b=>hg.block j (by omega) (by simp;omega))⟩,h.s,h.h⟩
end
theorem LD.ag {w W:World} {rb q g2 g5:Nat} {k:Kx.Kernel} {v0 v1 v2 v3:Value} (h:LD w W rb q g2 g5 k v0 v1 v2 v3):∀ V,W.grownBy V (some rb)->bV V v1 k.ag:=fun V hg=>by
 obtain ⟨base,hi,h2,h3,h4,hk⟩:=h.f;exact (hk V hg.size (fun j a b=>hg.block j (by omega) (by simp;omega))).i
structure LE (w W:World) (rb q g2 g3 g5:Nat) (k:Kx.Kernel) (v0 v1 v2 v3:Value):Prop where
 d:LD w W rb q g2 g5 k v0 v1 v2 v3
 x3:BX W g3 30 [I_ 0,I_ 0,I_ 0,I_ 0,I_ 0,.string ⟨#[]⟩]
 h3:w.heap.size<=g3/\g3<rb/\g2<g3
 n12:k.ag.length=12
theorem LE.pick {w W V:World} {rb q q' g2 g3 g5:Nat} {k:Kx.Kernel} {v0 v1 v2 v3:Value} (h:LE w W rb q g2 g3 g5 k v0 v1 v2 v3) (hr:RD V rb q') (hg:W.grownBy V (some rb)):LE w V rb q' g2 g3 g5 k v0 v1 v2 v3:=
 ⟨h.d.pick hr hg,(hg.block g3 h.x3.lt (by have:=h.h3;simp;omega)).trans h.x3,h.h3,h.n12⟩
theorem LE.below {w W V:World} {rb q g2 g3 g5:Nat} {k:Kx.Kernel} {v0 v1 v2 v3:Value} (h:LE w W rb q g2 g3 g5 k v0 v1 v2 v3) (hb:Below W.heap.size W V):LE w V rb q g2 g3 g5 k v0 v1 v2 v3:=
 h.pick (h.d.r.keep hb) (grown_below hb ⟨hb.os,hb.tape,hb.output⟩)
theorem LE.set {w W:World} {rb q g2 g3 g5 g6:Nat} {k:Kx.Kernel} {v0 v1 v2 v3:Value} (h:LE w W rb q g2 g3 g5 k v0 v1 v2 v3) (hg:g5<g6) (hi:∃ base hi,rb<base/\hi<=g5/\hi<=W.heap.size/\MP W base hi v0 v1 v2 v3 k:=h.d.f) (i:Nat) (v:Value):LE w (W.setCell ⟨g6,i,none⟩ v) rb q g2 g3 g5 k v0 v1 v2 v3:=by
 obtain ⟨base,hi,h2,h3,h4,hk⟩:=hi;have hh:=h.d.h;have h33:=h.h3;have hs:(W.setCell ⟨g6,i,none⟩ v).heap.size=W.heap.size:=by simp [World.setCell]
 exact ⟨⟨h.d.b.setCell (p:=⟨g6,i,none⟩) (by show w.heap.size<=g6;omega) v,h.d.r.grown (aK W g6 i v) (fun k hk=>by cases hk;omega),h.d.x2.other (by omega) i v,h.d.x5.other (by omega) i v,
  ⟨base,hi,h2,h3,by rw [hs];exact h4,hk.to (by rw [hs];exact A2 _) (fun j a b=>Below.heap_setCell W ⟨g6,i,none⟩ v j (by intro e;have:j=g6:=e;omega))⟩,h.d.s,h.d.h⟩,h.x3.other (by omega) i v,h.h3,h.n12⟩
theorem LE.fin {w W:World} {rb q g2 g3 g5:Nat} {k:Kx.Kernel} {v0 v1 v2 v3:Value} (h:LE w W rb q g2 g3 g5 k v0 v1 v2 v3) (l:List Value) (hl:l.length=6) :
  (Below w.heap.size w (sets (sets W g2 0 [v0,v1,v2,v3]) g3 0 l)/\BX (sets (sets W g2 0 [v0,v1,v2,v3]) g3 0 l) g2 28 [v0,v1,v2,v3]/\BX (sets (sets W g2 0 [v0,v1,v2,v3]) g3 0 l) g3 30 l/\RK (sets (sets W g2 0 [v0,v1,v2,v3]) g3 0 l) v0 v1 v2 v3 k) /\
  (Below w.heap.size w (sets (sets W g3 0 l) g2 0 [v0,v1,v2,v3])/\BX (sets (sets W g3 0 l) g2 0 [v0,v1,v2,v3]) g2 28 [v0,v1,v2,v3]/\BX (sets (sets W g3 0 l) g2 0 [v0,v1,v2,v3]) g3 30 l/\RK (sets (sets W g3 0 l) g2 0 [v0,v1,v2,v3]) v0 v1 v2 v3 k):=by
 obtain ⟨base,hi,h2,h4,h5,hk⟩:=h.d.f;have hh:=h.d.h;have h3:=h.h3;refine ⟨⟨dP h3.1 _ 0 (dP hh.1 _ 0 h.d.b),BX.iq (by omega) _ 0 (h.d.x2.sets _ rfl),(BX.iq (by omega) _ 0 h.x3).sets _ hl,?_⟩,⟨dP hh.1 _ 0 (dP h3.1 _ 0 h.d.b),(BX.iq (by omega) _ 0 h.d.x2).sets _ rfl,BX.iq (by omega) _ 0 (h.x3.sets _ hl),?_⟩⟩ <;>
 exact hk _ (by rw [jB,jB];exact A2 _) (fun j a _=>(mG _ _ (by omega) _ _).trans (mG _ _ (by omega) _ _))
def ad_ (w:World) (en:Ending) (w':World):Prop:=∃ (k:Kx.Kernel) (c:Kx.Call) (um ui ue uc:Value),en=.returned (.tuple #[.agg #[um,ui,ue,uc],dW c])/\(Sl um/\Sl ui/\Sl ue/\Sl uc)/\iQ k/\c.name.size<=9223372036854775807/\c.c<=9223372036854775807/\RK w' um ui ue uc k/\Below w.heap.size w w'
theorem adi (v:Value) (n:Nat) (w:World) (h:RB w v n):Calls prog 13 #[v] w (ad_ w):=by
 obtain ⟨w1,hw1⟩:=XP (w.alloc (.cells #[A0 none 0 0,A0 none 0 0,A0 none 0 0,A0 none 0 0] 28));obtain ⟨w0,hw0⟩:=XP (w1.alloc (.cells #[I_ 0,I_ 0,I_ 0,I_ 0,I_ 0,.string ⟨#[]⟩] 30));have B1a:Below w.heap.size w w1:=hw1 ▸ dm;have B0a:Below w1.heap.size w1 w0:=hw0 ▸ dm;have B1:=af (B1a.trans (B0a.mono B1a.size));have s1:w.heap.size<w1.heap.size:=by rw [<-hw1];simp
 have s0:w1.heap.size<w0.heap.size:=by rw [<-hw0];simp
 have X2:=af (show BX w0 w.heap.size 28 [A0 none 0 0,A0 none 0 0,A0 none 0 0,A0 none 0 0] from (hw1 ▸ BX.new w _ _:BX w1 _ _ _).below B0a);have X3:=af (show BX w0 w1.heap.size 30 [I_ 0,I_ 0,I_ 0,I_ 0,I_ 0,.string ⟨#[]⟩] from (hw0 ▸ BX.new w1 _ _:BX w0 _ _ _));have HB:=af (h.below B1.o);clear h B1a B0a;go_enter func13,ntmps13;go_wp2_with fail;clear hw1 hw0;refine (KR _ _ _ HB.o).mono ?_;rintro en w2 ⟨rb,rfl,hrb,hr,hb⟩;have hz2:=hb.size;have B2:=af (B1.o.trans (hb.mono B1.o.size));have HX:=af (X2.o.below hb);have HX3:=af (X3.o.below hb);have Hr:=af hr;have hrl:=hr.lt;clear hr hb X2 X3 HB B1;go_wp2_with fail;refine (JA rb 0 _ Hr.o (by omega)).mono ?_;rintro en w3 ⟨k,_,_,_,_,base,rfl,⟨⟨a0,n0,m0,rfl⟩,⟨a1,n1,m1,rfl⟩,⟨a2,n2,m2,rfl⟩,⟨a3,n3,m3,rfl⟩⟩,hs,h12,hbase,hko,q,hq,hr2,hg⟩;have hz3:=hg.size
 obtain ⟨w4,hw4⟩:=XP (w3.alloc (.cells #[A0 a0 n0 m0,A0 a1 n1 m1,A0 a2 n2 m2,A0 a3 n3 m3] 28));have B4:Below w3.heap.size w3 w4:=hw4 ▸ dm;have Y2:BX w3 w.heap.size 28 [A0 none 0 0,A0 none 0 0,A0 none 0 0,A0 none 0 0]:=(hg.block w.heap.size HX.o.lt (by simp;omega)).trans HX.o;have Y3:BX w3 w1.heap.size 30 [I_ 0,I_ 0,I_ 0,I_ 0,I_ 0,.string ⟨#[]⟩]:=(hg.block w1.heap.size HX3.o.lt (by simp;omega)).trans HX3.o;have B3:=B2.o.grown hg (show w.heap.size<=w2.heap.size by omega) (fun k hk=>by cases hk;omega);have H:=af (show LE w w4 rb q w.heap.size w1.heap.size w3.heap.size k (A0 a0 n0 m0) (A0 a1 n1 m1) (A0 a2 n2 m2) (A0 a3 n3 m3) from
  ⟨⟨B3.trans (B4.mono B3.size),hr2.keep B4,Y2.below B4,hw4 ▸ BX.new w3 _ _,⟨base,w3.heap.size,by omega,A2 _,B4.size,hko.r.to B4.size (fun j _ b=>B4.block j b)⟩,hs,by omega⟩,Y3.below B4,by omega,h12⟩)
 obtain ⟨g5,hg5⟩:=XP w3.heap.size;rw [hg5] at H;have TR:=af (show w1.heap.size<g5/\g5<w4.heap.size by rw [<-hw4];simp;omega);clear hs hko hr2 hg B3 B4 Y2 Y3 hbase HX HX3 B2 Hr;have p0:=H.o.d.x5.c4;go_wp2_with fail
 try rw [hw4]
 try rw [hg5]
 clear hw4 hg5 p0;refine (Ij rb _ k.ag _ _ _ _ _ H.o.d.r (by omega) H.o.d.ag H.o.n12).mono ?_;rintro en w5 ⟨⟨bQ,ce0,ca,cb,cc,bg⟩,e,rfl,-,-,hnm,hcm,q1,hq1,hr,hg⟩;unfold dW;have Hnm:=af (show bg.size<=9223372036854775807 from A1 hnm (by decide));have Hcm:=af (show cc<=9223372036854775807 from hcm);replace H:=af (H.o.pick hr hg);have Hz5:=af (show g5<w5.heap.size from Nat.lt_of_lt_of_le TR.o.2 hg.size);obtain ⟨w6,hw6⟩:=XP (w5.alloc (.cells #[I_ bQ,I_ ce0,I_ ca,I_ cb,I_ cc,.string bg] 30));have B6:Below w5.heap.size w5 w6:=hw6 ▸ dm;have XC:=af (show BX w6 w5.heap.size 30 [I_ bQ,I_ ce0,I_ ca,I_ cb,I_ cc,.string bg] from hw6 ▸ BX.new w5 _ _);replace H:=af (H.o.below B6);obtain ⟨g6,OT⟩:=XP w5.heap.size;rw [OT] at XC Hz5;clear hr hg hnm hcm B6
 go_wp2_with fail
 try rw [hw6]
 try rw [OT]
 clear hw6 OT;refine (afo 20 H.o.d.r).mono ?_;rintro en w7 ⟨x,rfl,x0,x1,hr,hg⟩;replace XC:=af (show BX w7 g6 30 _ from (hg.block g6 XC.o.lt (by have:=H.o.d.h;have:=Hz5.o;simp;omega)).trans XC.o);replace H:=af (H.o.pick hr hg);clear hr hg
 by_cases hx:x=0
 case' pos =>
  subst hx;have HB1:Below w7.heap.size w7 (w7.alloc (.cells #[I_ (-1),I_ 3] 3)):=dm;have HO:=af (OS.lit (l:=[-1,3]) (f:=iR) (sz:=1) (e:=3) (w:=w7) (base:=w7.heap.size) aW #[I_ (-1),I_ 3] rfl rfl (by decide)).oi;have H0:=af (H.o.below HB1);have XC0:=af (XC.o.below HB1);have hrl:=H.o.d.r.lt;clear HB1;go_wp2_with fail;refine (afo 2 H0.o.d.r).mono ?_;rintro en V1 ⟨x1,rfl,z1,t1,hr,hg⟩;obtain ⟨nn1,rfl⟩:=Int.eq_ofNat_of_zero_le z1;obtain ⟨bb,oo,cc',ev,_,hc⟩:=(HO.o.jT (rb:=rb) hrl hg).ri.at (k:=nn1) (by simp;omega);obtain ⟨⟨rfl,rfl,_⟩,_,rfl⟩:=Zb ev;clear ev;generalize ([-1,3]:List Int)[nn1]'_=JF at hc;rw [Nat.zero_add] at hc;replace XC:=af (show BX V1 g6 30 _ from (hg.block g6 XC0.o.lt (by have:=H0.o.d.h;have:=Hz5.o;simp;omega)).trans XC0.o)
  replace H:=af (H0.o.pick hr hg);clear hr hg HO H0 XC0;have q1:=XC.o.cell 1;have y1:=XC.o.frozen 1;go_wp2_with fail;clear q1 y1 hc;obtain ⟨Wf,hWf⟩:=XP (V1.setCell ⟨g6,1,none⟩ (I_ JF));replace H:=af (hWf ▸ H.o.set (g6:=g6) Hz5.o (i:=1) (v:=I_ JF));replace XC:=af (show BX Wf g6 30 [I_ bQ,I_ JF,I_ ca,I_ cb,I_ cc,.string bg] from hWf ▸ XC.o.set 1 (I_ JF));rw [hWf];clear hWf
 case' neg =>
  have hxb:(x==0)=false:=by simpa using hx
  clear hx;go_wp2_with fail;obtain ⟨JF,afd⟩:∃ x,x=ce0:=⟨_,rfl⟩;subst afd;obtain ⟨Wf,hWf⟩:∃ x,x=w7:=⟨_,rfl⟩;subst hWf
 all_goals
  obtain ⟨d,hd⟩:=XP Wf.drew;have Bd:Below Wf.heap.size Wf d:=hd ▸ Below.bz fZ;have Hd:=af hd;replace H:=af (H.o.below Bd);replace XC:=af (XC.o.below Bd);clear hd Bd;have HF:=af (H.o.fin [I_ bQ,I_ JF,I_ ca,I_ cb,I_ cc,.string bg] rfl);have afe:=af (show w1.heap.size≠g6 by have:=Hz5.o;have:=TR.o;omega);have aff:=af (show w.heap.size≠g6 by have:=Hz5.o;have:=TR.o;omega);have afg:=af (show w.heap.size≠g5 by have:=TR.o;omega);have afh:=af (show w1.heap.size≠g5 by have:=TR.o;omega);have H23:=af (show w.heap.size≠w1.heap.size by omega);have Hs:=af H.o.d.s
  try go_wp2_with fail
  refine uu (S:=(fun U:World=>U.cell? ⟨g5,0,none⟩=some (A0 a0 n0 m0)/\U.cell? ⟨g5,1,none⟩=some (A0 a1 n1 m1)/\U.cell? ⟨g5,2,none⟩=some (A0 a2 n2 m2)/\U.cell? ⟨g5,3,none⟩=some (A0 a3 n3 m3)/\U.cell? ⟨g6,0,none⟩=some (I_ bQ)/\U.cell? ⟨g6,1,none⟩=some (I_ JF)/\U.cell? ⟨g6,2,none⟩=some (I_ ca)/\U.cell? ⟨g6,3,none⟩=some (I_ cb)/\U.cell? ⟨g6,4,none⟩=some (I_ cc)/\U.cell? ⟨g6,5,none⟩=some (.string bg))) (xs:=[]) (by kernel_rfl) (by rw [Hd.o];exact ⟨H.o.d.x5.cell 0,H.o.d.x5.cell 1,H.o.d.x5.cell 2,H.o.d.x5.cell 3,XC.o.cell 0,XC.o.cell 1,XC.o.cell 2,XC.o.cell 3,XC.o.cell 4,XC.o.cell 5⟩) (fun hHeld=>?_)
  rw [Hd.o];rw [Hd.o] at hHeld;refine tL 0 ?_;refine tL 1 ?_;refine lI 2 (by kernel_rfl) rfl (fun K hK=>?_);have r0:=H.o.d.x2.c4;have jh:=H.o.d.x2.f4;rw [if_pos (by rfl)];go_simp;obtain ⟨F,hF⟩:=XP (sets d w.heap.size 0 [A0 a0 n0 m0,A0 a1 n1 m1,A0 a2 n2 m2,A0 a3 n3 m3]);rw [afA d,hF];clear r0 jh
  have XF5:=af (show BX F g5 28 [A0 a0 n0 m0,A0 a1 n1 m1,A0 a2 n2 m2,A0 a3 n3 m3] from hF ▸ BX.iq (Ne.symm afg.o) _ 0 H.o.d.x5);have XF6:=af (show BX F g6 30 [I_ bQ,I_ JF,I_ ca,I_ cb,I_ cc,.string bg] from hF ▸ BX.iq (Ne.symm aff.o) _ 0 XC.o);have XFo:=af (show BX F w1.heap.size 30 [I_ 0,I_ 0,I_ 0,I_ 0,I_ 0,.string ⟨#[]⟩] from hF ▸ BX.iq (Ne.symm H23.o) _ 0 H.o.x3);rw [hF] at HF;clear hF;refine afX hK ⟨XF5.o.cell 0,XF5.o.cell 1,XF5.o.cell 2,XF5.o.cell 3,XF6.o.cell 0,XF6.o.cell 1,XF6.o.cell 2,XF6.o.cell 3,XF6.o.cell 4,XF6.o.cell 5⟩ fun hHeld=>?_
  clear hK K;refine lI 3 (by kernel_rfl) rfl (fun K hK=>?_);have d0:=XFo.o.c6;have f0:=XFo.o.frozen 0;have f1:=XFo.o.frozen 1;have f2:=XFo.o.frozen 2;have f3:=XFo.o.frozen 3;have f4:=XFo.o.frozen 4;have f5:=XFo.o.frozen 5;rw [if_pos (by rfl)];go_simp;obtain ⟨FF,hFF⟩:=XP (sets F w1.heap.size 0 [I_ bQ,I_ JF,I_ ca,I_ cb,I_ cc,.string bg]);rw [afB F,hFF];clear d0 f0 f1 f2 f3 f4 f5
  have YF5:=af (show BX FF g5 28 [A0 a0 n0 m0,A0 a1 n1 m1,A0 a2 n2 m2,A0 a3 n3 m3] from hFF ▸ BX.iq (Ne.symm afh.o) _ 0 XF5.o);have YF6:=af (show BX FF g6 30 [I_ bQ,I_ JF,I_ ca,I_ cb,I_ cc,.string bg] from hFF ▸ BX.iq (Ne.symm afe.o) _ 0 XF6.o);replace HF:=af HF.o.1;rw [hFF] at HF;clear hFF;refine afX hK ⟨YF5.o.cell 0,YF5.o.cell 1,YF5.o.cell 2,YF5.o.cell 3,YF6.o.cell 0,YF6.o.cell 1,YF6.o.cell 2,YF6.o.cell 3,YF6.o.cell 4,YF6.o.cell 5⟩ fun hHeld=>?_
  clear hK K;refine gY (by kernel_rfl) ?_ _;go_wp2_with fail;obtain ⟨HFB,HFK,HFC,HFR⟩:=HF.o;obtain ⟨e0,e1,e2,e3⟩:=HFK.c4;obtain ⟨b0,b1,b2,b3,b4,b5⟩:=HFC.c6;refine af7 (by simp [results,results13,go_sem,e0,e1,e2,e3,b0,b1,b2,b3,b4,b5]<;>rfl) ?_;exact ⟨k,⟨bQ,JF,ca,cb,cc,bg⟩,_,_,_,_,rfl,⟨⟨_,_,_,rfl⟩,⟨_,_,_,rfl⟩,⟨_,_,_,rfl⟩,⟨_,_,_,rfl⟩⟩,Hs.o,Hnm.o,Hcm.o,HFR,HFB⟩
end Go.Proofs.YtecnmehlbfklnaaGreatDoor
