/- KC13, KC14, joined. -/
import Derived.Test.YthcmmoibpgcgaaaGreatDoorKIc
import Derived.Test.YthcmmoibpgcgaaaGreatDoorKCa
set_option maxHeartbeats 4000000
set_option maxRecDepth 100000
set_option linter.all false
open List renaming getElem?_cons_zero->A1,getElem?_cons_succ->A2,take_succ_eq_append_getElem->A3,getElem_set_ne->A4,length_filter_le->A5,getElem_set_self->A6,length_set->A9
open Nat renaming le_trans->A',le_succ_of_le->Ab
open Int renaming eq_ofNat_of_zero_le->Al
open Go.Value renaming slice->A0
open Go.Proofs.Tryz
namespace Go.Proofs.YthcmmoibpgcgaaaGreatDoor
open Go.RowKit Kx
variable {w W:World}{g e f base g0 g1 g2 t1 t2 hi:Nat}{t:TypeId}{a b c d um ui ue uc u:Value}{cs l0 l1 l2:List Value}{k:Kx.Kernel}{r:Kx.Out}{code val x:Int}{fn:Func}{act:Act}{l:List aG}{es:List Kx.Env}
theorem BX.c4 (h:BX w g t [a,b,c,d]):w.cell? ⟨g,0,none⟩=some a/\w.cell? ⟨g,1,none⟩=some b/\w.cell? ⟨g,2,none⟩=some c/\w.cell? ⟨g,3,none⟩=some d:=⟨h.cell 0,h.cell 1,h.cell 2,h.cell 3⟩
theorem BX.c6 {e f:Value} (h:BX w g t [a,b,c,d,e,f]):w.cell? ⟨g,0,none⟩=some a/\w.cell? ⟨g,1,none⟩=some b/\w.cell? ⟨g,2,none⟩=some c/\w.cell? ⟨g,3,none⟩=some d/\w.cell? ⟨g,4,none⟩=some e/\w.cell? ⟨g,5,none⟩=some f:=⟨h.cell 0,h.cell 1,h.cell 2,h.cell 3,h.cell 4,h.cell 5⟩
theorem BX.f4 (h:BX w g t cs):w.frozen? ⟨g,0,none⟩=false/\w.frozen? ⟨g,1,none⟩=false/\w.frozen? ⟨g,2,none⟩=false/\w.frozen? ⟨g,3,none⟩=false:=⟨h.frozen 0,h.frozen 1,h.frozen 2,h.frozen 3⟩
def Sl (v:Value):Prop:=∃ (a:Option Addr) (n c:Nat),v=A0 a n c
def vk (base:Nat) (w:World) (r:Kx.Out) (e:Ending) (w':World):Prop:=
 Kept base w w'/\∃ v,e=.returned (.tuple #[v,I_ r.2.1,I_ r.2.2])/\(∃ a b c d:Value,v=.agg #[a,b,c,d]/\Sl a/\Sl b/\Sl c/\Sl d)/\(r.2.2=0->∃ um ui ue uc,v=.agg #[um,ui,ue,uc]/\KO w' base um ui ue uc r.1)
theorem KO.sl (h:KO w base um ui ue uc k):Sl um/\Sl ui/\Sl ue/\Sl uc:=by
 obtain ⟨_,a1,c1,e1,_,_⟩:=h.m.rm.len;obtain ⟨a2,c2,e2,_,_⟩:=RS.val h.i.rs;obtain ⟨_,a3,c3,e3,_,_⟩:=h.e.re.len;obtain ⟨a4,c4,e4,_,_⟩:=RS.val h.c.rs;exact ⟨⟨_,_,_,e1⟩,⟨_,_,_,e2⟩,⟨_,_,_,e3⟩,⟨_,_,_,e4⟩⟩
theorem pF (h:KO w base um ui ue uc k) (hbase:base<=w.heap.size) (bQ e ca cb cc:Int) (bg:Kx.Str) :
  ∃ am cm ai ci ae ce ac cq w0 w1 w2,um=A0 am k.mem.length cm/\ui=A0 ai k.ag.length ci/\ue=A0 ae k.ah.length ce/\uc=A0 ac k.cache.length cq /\
   w.alloc (.cells #[um,ui,ue,uc] 28)=w0/\w0.alloc (.cells #[I_ bQ,I_ e,I_ ca,I_ cb,I_ cc,.string bg] 59)=w1/\w1.alloc (.cells #[A0 none 0 0,A0 none 0 0,A0 none 0 0,A0 none 0 0] 28)=w2 /\
   TI (BX w2 w.heap.size 28 [um,ui,ue,uc])/\TI (BX w2 w0.heap.size 59 [I_ bQ,I_ e,I_ ca,I_ cb,I_ cc,.string bg])/\TI (BX w2 w1.heap.size 28 [A0 none 0 0,A0 none 0 0,A0 none 0 0,A0 none 0 0]) /\
   TI (Kept base w w2)/\TI (KO w2 base um ui ue uc k)/\w.heap.size<w0.heap.size/\w0.heap.size<w1.heap.size/\w1.heap.size<w2.heap.size:=by
 obtain ⟨_,am,cm,e1,_,_⟩:=h.m.rm.len;obtain ⟨ai,ci,e2,_,_⟩:=RS.val h.i.rs;obtain ⟨_,ae,ce,e3,_,_⟩:=h.e.re.len;obtain ⟨ac,cq,e4,_,_⟩:=RS.val h.c.rs;obtain ⟨w0,hw0⟩:=XP (w.alloc (.cells #[um,ui,ue,uc] 28));obtain ⟨w1,hw1⟩:=XP (w0.alloc (.cells #[I_ bQ,I_ e,I_ ca,I_ cb,I_ cc,.string bg] 59));obtain ⟨w2,hw2⟩:=XP (w1.alloc (.cells #[A0 none 0 0,A0 none 0 0,A0 none 0 0,A0 none 0 0] 28));have B0:Below w.heap.size w w0:=hw0 ▸ dm;have B1:Below w0.heap.size w0 w1:=hw1 ▸ dm;have B2:Below w1.heap.size w1 w2:=hw2 ▸ dm;have Bw:Below w.heap.size w w2:=B0.trans ((B1.trans (B2.mono B1.size)).mono B0.size)
 exact ⟨am,cm,ai,ci,ae,ce,ac,cq,w0,w1,w2,e1,e2,e3,e4,hw0,hw1,hw2,af (((hw0 ▸ BX.new w _ _:BX w0 _ _ _).below B1).below B2),af ((hw1 ▸ BX.new w0 _ _:BX w1 _ _ _).below B2),af (hw2 ▸ BX.new w1 _ _),af (Kept.of Bw hbase),af (h.below Bw),
  by rw [<-hw0];simp,by rw [<-hw1];simp,by rw [<-hw2];simp⟩
theorem ru {V:World} {t0 n:Nat} (hb:Below W.heap.size W V) (hbase:base<=w.heap.size) (_hs:w.heap.size<n) (X0:TI (BX W g0 t0 l0)) (X1:TI (BX W g1 t1 l1)) (X2:TI (BX W g2 t2 l2)) (HO:TI (KO W base um ui ue uc k)) (Bw:TI (Kept base w W)) :
  TI (BX V g0 t0 l0)/\TI (BX V g1 t1 l1)/\TI (BX V g2 t2 l2)/\TI (KO V base um ui ue uc k)/\TI (Kept base w V)/\W.heap.size<=V.heap.size:=
 ⟨X0.o.below hb,X1.o.below hb,X2.o.below hb,HO.o.below hb,Bw.o.go hb hbase,hb.size⟩
theorem fG (X:BX W g t cs) (hl:cs.length=4) (hB:Kept base w W) (hg:base<=g/\w.heap.size<=g) (a b c d:Value) :
  ((((W.setCell ⟨g,0,none⟩ a).setCell ⟨g,1,none⟩ b).setCell ⟨g,2,none⟩ c).setCell ⟨g,3,none⟩ d).cell? ⟨g,0,none⟩=some a/\((((W.setCell ⟨g,0,none⟩ a).setCell ⟨g,1,none⟩ b).setCell ⟨g,2,none⟩ c).setCell ⟨g,3,none⟩ d).cell? ⟨g,1,none⟩=some b /\
  ((((W.setCell ⟨g,0,none⟩ a).setCell ⟨g,1,none⟩ b).setCell ⟨g,2,none⟩ c).setCell ⟨g,3,none⟩ d).cell? ⟨g,2,none⟩=some c/\((((W.setCell ⟨g,0,none⟩ a).setCell ⟨g,1,none⟩ b).setCell ⟨g,2,none⟩ c).setCell ⟨g,3,none⟩ d).cell? ⟨g,3,none⟩=some d /\
  Kept base w ((((W.setCell ⟨g,0,none⟩ a).setCell ⟨g,1,none⟩ b).setCell ⟨g,2,none⟩ c).setCell ⟨g,3,none⟩ d) /\
  (t=28->∀ um ui ue uc k,KO W base um ui ue uc k->KO ((((W.setCell ⟨g,0,none⟩ a).setCell ⟨g,1,none⟩ b).setCell ⟨g,2,none⟩ c).setCell ⟨g,3,none⟩ d) base um ui ue uc k):=by
 have Z:=((((X.set 0 a).set 1 b).set 2 c).set 3 d)
 match cs,hl with
 | [x0,x1,x2,x3],_ =>
 refine ⟨Z.cell 0,Z.cell 1,Z.cell 2,Z.cell 3,(((hB.new hg 0 a).new hg 1 b).new hg 2 c).new hg 3 d,fun e um ui ue uc k h=>?_⟩
 subst e;exact KO.box (KO.box (KO.box (KO.box h X aJ 0 a) (X.set 0 a) aJ 1 b) ((X.set 0 a).set 1 b) aJ 2 c) (((X.set 0 a).set 1 b).set 2 c) aJ 3 d
theorem jY {a b c d:Option Addr} {n1 n2 n3 n4 m1 m2 m3 m4:Nat} (hr:r=(k,0,code)) (hc:code≠0) (hB:Kept base w W):vk base w r (.returned (.tuple #[.agg #[A0 a n1 m1,A0 b n2 m2,A0 c n3 m3,A0 d n4 m4],I_ 0,I_ code])) W:=
 ⟨hB,_,by rw [hr],⟨_,_,_,_,rfl,⟨_,_,_,rfl⟩,⟨_,_,_,rfl⟩,⟨_,_,_,rfl⟩,⟨_,_,_,rfl⟩⟩,fun h=>absurd h (by rw [hr];exact hc)⟩
theorem yE (hr:r=(k,val,0)) (hB:Kept base w W) (hK:KO W base um ui ue uc k):vk base w r (.returned (.tuple #[.agg #[um,ui,ue,uc],I_ val,I_ 0])) W:=
 ⟨hB,_,by rw [hr],⟨um,ui,ue,uc,rfl,hK.sl⟩,fun _=>⟨um,ui,ue,uc,rfl,by rw [hr];exact hK⟩⟩
theorem afj {P:Program} (hr:r=(k,0,code)) (X:BX W g t cs) (hB:Kept base w W) (hb:base<=w.heap.size) (hv:∀ V:World,V.cell? ⟨g,0,none⟩=some a->V.cell? ⟨g,1,none⟩=some b->V.cell? ⟨g,2,none⟩=some c->V.cell? ⟨g,3,none⟩=some d->(results fn act.tmps).run P V=.ok (.tuple #[.agg #[a,b,c,d],I_ 0,I_ code]) V)
  (hc:code≠0:=by decide) (hl:cs.length=4:=by rfl) (hg:w.heap.size<=g:=by omega) (ha:Sl a:=by exact ⟨_,_,_,rfl⟩) (hb':Sl b:=by exact ⟨_,_,_,rfl⟩) (hc':Sl c:=by exact ⟨_,_,_,rfl⟩) (hd':Sl d:=by exact ⟨_,_,_,rfl⟩) (hd:act.defers=[]:=by rfl) :
  bodyPost P fn (vk base w r) .ret act ((((W.setCell ⟨g,0,none⟩ a).setCell ⟨g,1,none⟩ b).setCell ⟨g,2,none⟩ c).setCell ⟨g,3,none⟩ d):=by
 obtain ⟨e0,e1,e2,e3,h4,_⟩:=fG X hl hB ⟨A' hb hg,hg⟩ a b c d;exact bodyPost_ret (hv _ e0 e1 e2 e3) hd ⟨h4,_,by rw [hr],⟨_,_,_,_,rfl,ha,hb',hc',hd'⟩,fun h=>absurd h (by rw [hr];exact hc)⟩
theorem afk {P:Program} (hr:r=(k,val,0)) (X:BX W g 28 cs) (hB:Kept base w W) (hb:base<=w.heap.size) (hK:KO W base a b c d k) (hv:∀ V:World,V.cell? ⟨g,0,none⟩=some a->V.cell? ⟨g,1,none⟩=some b->V.cell? ⟨g,2,none⟩=some c->V.cell? ⟨g,3,none⟩=some d->(results fn act.tmps).run P V=.ok (.tuple #[.agg #[a,b,c,d],I_ val,I_ 0]) V)
  (hl:cs.length=4:=by rfl) (hg:w.heap.size<=g:=by omega) (hd:act.defers=[]:=by rfl) :
  bodyPost P fn (vk base w r) .ret act ((((W.setCell ⟨g,0,none⟩ a).setCell ⟨g,1,none⟩ b).setCell ⟨g,2,none⟩ c).setCell ⟨g,3,none⟩ d):=by
 obtain ⟨e0,e1,e2,e3,h4,hk⟩:=fG X hl hB ⟨A' hb hg,hg⟩ a b c d;exact bodyPost_ret (hv _ e0 e1 e2 e3) hd (yE hr h4 (hk rfl _ _ _ _ _ hK))
theorem Gt (v:Value) (h1:g1≠g0) (h2:g2≠g0) (hg:base<=g0/\w.heap.size<=g0) (X0:TI (BX W g0 28 [a,b,c,d])) (X1:TI (BX W g1 t1 l1)) (X2:TI (BX W g2 t2 l2)) (HO:TI (KO W base um ui ue uc k)) (Bw:TI (Kept base w W)) :
  TI (BX (W.setCell ⟨g0,1,none⟩ v) g0 28 [a,v,c,d])/\TI (BX (W.setCell ⟨g0,1,none⟩ v) g1 t1 l1)/\TI (BX (W.setCell ⟨g0,1,none⟩ v) g2 t2 l2)/\TI (KO (W.setCell ⟨g0,1,none⟩ v) base um ui ue uc k)/\TI (Kept base w (W.setCell ⟨g0,1,none⟩ v)):=
 ⟨X0.o.set 1 v,X1.o.other h1 1 v,X2.o.other h2 1 v,HO.o.box X0.o aJ 1 v,Bw.o.new hg 1 v⟩
theorem JP (v:Value) (h1:g1≠g0) (h2:g2≠g0) (hg:base<=g0/\w.heap.size<=g0) (X0:TI (BX W g0 28 [a,b,c,d])) (X1:TI (BX W g1 t1 l1)) (X2:TI (BX W g2 t2 l2)) (HO:TI (KO W base um ui ue uc k)) (Bw:TI (Kept base w W)) :
  TI (BX (W.setCell ⟨g0,3,none⟩ v) g0 28 [a,b,c,v])/\TI (BX (W.setCell ⟨g0,3,none⟩ v) g1 t1 l1)/\TI (BX (W.setCell ⟨g0,3,none⟩ v) g2 t2 l2)/\TI (KO (W.setCell ⟨g0,3,none⟩ v) base um ui ue uc k)/\TI (Kept base w (W.setCell ⟨g0,3,none⟩ v)):=
 ⟨X0.o.set 3 v,X1.o.other h1 3 v,X2.o.other h2 3 v,HO.o.box X0.o aJ 3 v,Bw.o.new hg 3 v⟩
theorem DI (hs:iQ k) (he:e<k.ah.length):Dw (au k.ah e).aB:=hs.2 e he
theorem wS (k:Kx.Kernel) (c:Kx.Call) (e f:Nat) (vm vi ve vc:Value) (w:World) (h:RK w vm vi ve vc k) (hok:az k=true) (hs:iQ k) (hce:c.env=e) (he:e<3) (hca:c.a=f) (hf:f<12) (hcb:c.kind=4->c.b=2\/c.b=3) (hro:aS (au k.ah e).aB=true) :
  Calls prog 278 #[.agg #[vm,vi,ve,vc],dW c] w (yH bH 3 98 w (Kx.pinned k c).1 [I_ (Kx.pinned k c).2]):=by
 obtain ⟨bQ,JF,ca,cb,cc,bg⟩:=c;simp only at hce hca hcb;subst hce hca;obtain ⟨hmo,jI,h12,_,h3,_⟩:=aI hok;obtain ⟨w0,hw0⟩:=XP (w.alloc (.cells #[vm,vi,ve,vc] 28));obtain ⟨w1,hw1⟩:=XP (w0.alloc (.cells #[I_ bQ,I_ (e:Int),I_ (f:Int),I_ cb,I_ cc,.string bg] 59));have B0:Below w.heap.size w w0:=hw0 ▸ dm;have B1:Below w0.heap.size w0 w1:=hw1 ▸ dm;have X0:=af (show BX w1 w.heap.size 28 [vm,vi,ve,vc] from (hw0 ▸ BX.new w _ _:BX w0 _ _ _).below B1);have X1:=af (show BX w1 w0.heap.size 59 [I_ bQ,I_ (e:Int),I_ (f:Int),I_ cb,I_ cc,.string bg] from (hw1 ▸ BX.new w0 _ _:BX w1 _ _ _));have Bw:=af (show Below w.heap.size w w1 from B0.trans (B1.mono B0.size));have s0:w.heap.size<w0.heap.size:=by rw [<-hw0];simp
 have s1:w0.heap.size<w1.heap.size:=by rw [<-hw1];simp
 have HO:=af (show RK w1 vm vi ve vc k from ⟨h.m.below Bw.o,RS.below h.i Bw.o,h.e.below Bw.o,RS.below h.c Bw.o⟩);clear B0 B1;unfold dW
 by_cases hk:bQ=4
 ·subst hk;obtain ⟨b,off,cap1,u,rfl,hbl,g0,_,hr⟩:=HO.o.e.at (k:=e) (by omega);obtain ⟨a9,c9,rfl,_,_⟩:=RS.val hr;have HC:=af (yG k.mem k.ag f cb (au k.ah e).aB _ _ _ w1.drew (HO.o.m.below (Below.bz (Below.refl _ w1))) hmo (RS.below HO.o.i (Below.bz (Below.refl _ w1))) hs.1 jI h12 (RS.below hr (Below.bz (Below.refl _ w1))) hro (DI hs (by omega)) hf (hcb rfl));have HF:=af (show Kx.pinned k ⟨4,e,f,cb,cc,bg⟩=Kx.pin k.mem k.ag f cb (au k.ah e).aB from rfl);have p0:=X0.o.cell 0;have p1:=X0.o.cell 1;have p2:=X0.o.cell 2;have c0:=X1.o.cell 0;have c1:=X1.o.cell 1;have c2:=X1.o.cell 2;have c3:=X1.o.cell 3;simp only [A1,A2] at p0 p1 p2 c0 c1 c2 c3;have PG:(e:Int)<(k.ah.length:Int):=by omega
  clear h hok hs hmo jI h12 h3 hcb hro hr HO X0 X1;go_enter func278,ntmps278;go_wp2_with fail;go_region_held3 (fun wz=>wz.cell? ⟨w.heap.size,0,none⟩=some vm/\wz.cell? ⟨w.heap.size,1,none⟩=some vi/\wz.cell? ⟨w.heap.size,2,none⟩=some (A0 (some ⟨b,off,none⟩) k.ah.length cap1)/\wz.cell? ⟨w0.heap.size,1,none⟩=some (I_ e)/\wz.cell? ⟨w0.heap.size,2,none⟩=some (I_ f)/\wz.cell? ⟨w0.heap.size,3,none⟩=some (I_ cb)/\wz.cell? ⟨b,off+e*2,none⟩=some (A0 a9 (au k.ah e).aB.length c9))
   (first | assumption | exact ⟨(hb2.cell (show w.heap.size<w1.heap.size by omega)).trans p0,(hb2.cell (show w.heap.size<w1.heap.size by omega)).trans p1,(hb2.cell (show w.heap.size<w1.heap.size by omega)).trans p2,(hb2.cell s1).trans c1,(hb2.cell s1).trans c2,(hb2.cell s1).trans c3,(hb2.cell hbl).trans g0⟩ | go_keep)
   (first | (go_at_call 308;refine HC.o.mono ?_;rintro en w2 ⟨u2,rfl,ho2,hb0⟩;have hb2:Below w1.heap.size w1 w2:=Below.gG hb0;have l7:=af ho2;clear ho2 hb0))
  have HB:=af (Bw.o.trans (hb2.mono Bw.o.size));clear hb2 HC p0 p1 p2 c0 c1 c2 c3 g0;go_wp2_with fail;go_ret2;rw [HF.o];exact ⟨_,rfl,l7.o.mono Bw.o.size,HB.o⟩
 have HC:=af (vX k.mem k.ag f _ _ w1 HO.o.m hmo HO.o.i hs.1 jI h12 hf);have HF:=af (show Kx.pinned k ⟨bQ,e,f,cb,cc,bg⟩=oL k.mem k.ag f by unfold Kx.pinned;rw [if_neg hk]);have p0:=X0.o.cell 0;have p1:=X0.o.cell 1;have c0:=X1.o.cell 0;have c2:=X1.o.cell 2;simp only [A1,A2] at p0 p1 c0 c2;have hkb:(bQ==4)=false:=by simpa using hk
 clear h hok hs hmo jI h12 h3 hcb hro HO X0 X1 hk;go_enter func278,ntmps278;go_wp2_with fail;refine HC.o.mono ?_;rintro en w2 ⟨u2,rfl,ho2,hb2⟩;have l7:=af ho2;have HB:=af (Bw.o.trans (hb2.mono Bw.o.size));clear ho2 hb2 HC;go_wp2_with fail;go_ret2;rw [HF.o];exact ⟨_,rfl,l7.o.mono Bw.o.size,HB.o⟩
theorem DX (k:Kx.Kernel) (c:Kx.Call) (e:Nat) (base:Nat) (um ui ue uc:Value) (w:World) (h:KO w base um ui ue uc k) (hbase:base<=w.heap.size) (hok:az k=true) (hs:iQ k) (hce:c.env=e) (he:e<3) (hro:aS (au k.ah e).aB=true) :
  Calls prog 223 #[.agg #[um,ui,ue,uc],dW c] w (vk base w (lu k c)):=by
 obtain ⟨bQ,JF,ca,cb,cc,bg⟩:=c;simp only at hce;subst hce;obtain ⟨am,cm,ai,ci,ae,ce,ac,cq,w0,w1,w2,rfl,rfl,rfl,rfl,hw0,hw1,hw2,X0,X1,X2,Bw,HO,s0,s1,s2⟩:=pF h hbase bQ e ca cb cc bg;obtain ⟨hmo,jI,h12,hco,h3,hro⟩:=aI hok;have kG:=af hmo;have nM:=af jI;have fJ:=af h12;have H3:=af h3;have bF:=af hok;have Hs:=af hs;have aC:=af hbase;clear h hok hs hmo jI h12 hco h3 hro;have HV:=af (show lu k ⟨bQ,e,ca,cb,cc,bg⟩=(if !Kx.bK ca 0 11||(Kx.inf k.ag ca.toNat).kind==0||(bQ==4&&!aX cb) then (k,0,3) else if !jQ k e (Kx.inf k.ag ca.toNat).guard then (k,0,1) else if (Kx.pinned k ⟨bQ,e,ca,cb,cc,bg⟩).2=1 then (k,0,2) else if (Kx.pinned k ⟨bQ,e,ca,cb,cc,bg⟩).2=2 then (k,0,3) else (⟨k.mem,(Kx.pinned k ⟨bQ,e,ca,cb,cc,bg⟩).1,k.ah,k.cache⟩,0,0)) from rfl);have mW:=af hro;clear hro
 obtain ⟨c0,c1,c2,c3,c4,c5⟩:=X1.o.c6
 cases hin:Kx.bK ca 0 11 with
 | false =>
  have HF:=af (show lu k ⟨bQ,e,ca,cb,cc,bg⟩=(k,0,3) by rw [HV.o,hin];rfl);have jR:=af hin;clear hin HV;unfold dW;go_enter func223,ntmps223;go_wp2_with fail;refine (dI _ _).mono ?_;rintro en w3 ⟨rfl,rfl⟩;rw [jR.o];have p0:=X0.o.c4;have r0:=X2.o.c4;have jh:=X2.o.f4;go_wp2_with fail;exact afj HF.o X2.o Bw.o aC.o fun _ a b c d=>by simp [results,results223,go_sem,a,b,c,d]
 | true =>
  obtain ⟨a0,a11⟩:=Kx.ay.1 hin;obtain ⟨f,rfl⟩:=Al a0;rw [show ((f:Int)).toNat=f from rfl,hin] at HV;have hf:f<12:=by omega
  have jR:=af hin;clear hin a0 a11;have wJ:(f:Int)<(k.ag.length:Int):=by have:=fJ.o;omega
  obtain ⟨bi,oi,ci',ev,zN,g0,g1,_⟩:=bV.at HO.o.i.rs (k:=f) (by have:=fJ.o;omega);obtain ⟨rfl,_,rfl⟩:=Za ev;clear ev;have p0:=X0.o.c4
  by_cases hk0:(Kx.inf k.ag f).kind=0
  ·have HF:=af (show lu k ⟨bQ,e,f,cb,cc,bg⟩=(k,0,3) by rw [HV.o,hk0];rfl);rw [hk0] at g0;clear HV hk0;unfold dW;go_enter func223,ntmps223;go_wp2_with fail;refine (dI _ _).mono ?_;rintro en w3 ⟨rfl,rfl⟩;rw [jR.o];have r0:=X2.o.c4;have jh:=X2.o.f4;go_wp2_with fail;exact afj HF.o X2.o Bw.o aC.o fun _ a b c d=>by simp [results,results223,go_sem,a,b,c,d]
  have hkb:((Kx.inf k.ag f).kind==0)=false:=by simpa using hk0
  cases hpt:(bQ==4&&!aX cb) with
  | true =>
   have HF:=af (show lu k ⟨bQ,e,f,cb,cc,bg⟩=(k,0,3) by rw [HV.o,hpt];simp);simp only [Bool.and_eq_true,beq_iff_eq,Bool.not_eq_true'] at hpt;obtain ⟨rfl,ht⟩:=hpt;have Ht:=af ht;clear HV hk0 ht;unfold dW;go_enter func223,ntmps223;go_wp2_with fail;refine (dI _ _).mono ?_;rintro en w3 ⟨rfl,rfl⟩;rw [jR.o];go_wp2_with fail;refine (gu _ _).mono ?_;rintro en w3 ⟨rfl,rfl⟩;rw [Ht.o];have r0:=X2.o.c4;have jh:=X2.o.f4;go_wp2_with fail;exact afj HF.o X2.o Bw.o aC.o fun _ a b c d=>by simp [results,results223,go_sem,a,b,c,d]
  | false =>
   have HV:=af (show lu k ⟨bQ,e,f,cb,cc,bg⟩=(if !jQ k e (Kx.inf k.ag f).guard then (k,0,1) else if (Kx.pinned k ⟨bQ,e,f,cb,cc,bg⟩).2=1 then (k,0,2) else if (Kx.pinned k ⟨bQ,e,f,cb,cc,bg⟩).2=2 then (k,0,3) else (⟨k.mem,(Kx.pinned k ⟨bQ,e,f,cb,cc,bg⟩).1,k.ah,k.cache⟩,0,0)) by rw [HV.o,hpt,hkb];simp);have HM:=af (qE k e (Kx.inf k.ag f).guard (A0 am k.mem.length cm) (A0 (some ⟨bi,oi,none⟩) k.ag.length ci) (A0 ae k.ah.length ce) (A0 ac k.cache.length cq) w2.drew (HO.o.below (Below.bz (Below.refl _ w2))).rk.e (by have:=H3.o;omega));have hcb:bQ=4->cb=2\/cb=3:=by
    rintro rfl;simp only [beq_self_eq_true,Bool.true_and,Bool.not_eq_false'] at hpt;simpa [aX] using hpt
   have UL:=af hcb;have hbO:=aC.o;clear hpt hkb hcb
   by_cases h4:bQ=4
   all_goals (first | subst h4 | (have UM:(bQ==4)=false:=by simpa using h4))
   all_goals (
    unfold dW;go_enter func223,ntmps223;go_wp2_with fail;refine (dI _ _).mono ?_;rintro en w3 ⟨rfl,rfl⟩;rw [jR.o];go_wp2_with fail)
   ·refine (gu _ _).mono ?_;rintro en w3 ⟨rfl,rfl⟩;rw [show aX cb=true by rcases UL.o (by simp) with rfl | rfl <;> rfl]
    go_wp2_with fail;go_still_tail 10,(by kernel_rfl)
    go_wp2_with fail;refine HM.o.mono ?_;rintro en w3 ⟨rfl,hb⟩;replace hb:=Below.gG hb;clear p0 HM g0 g1;clear c0 c1 c2 c3 c4 c5;obtain ⟨X0,X1,X2,HO,Bw,zz⟩:=ru hb aC.o s0 X0 X1 X2 HO Bw;clear hb zz
    cases wR:jQ k e (Kx.inf k.ag f).guard with
    | false =>
     have HF:=af (show lu k ⟨4,e,f,cb,cc,bg⟩=(k,0,1) by rw [HV.o,wR];rfl);clear HV wR;have p0:=X0.o.c4;have r0:=X2.o.c4;have jh:=X2.o.f4;go_wp2_with fail;exact afj HF.o X2.o Bw.o aC.o fun _ a b c d=>by simp [results,results223,go_sem,a,b,c,d]
    | true =>
     have HV:=af (show lu k ⟨4,e,f,cb,cc,bg⟩=(if (Kx.pinned k ⟨4,e,f,cb,cc,bg⟩).2=1 then (k,0,2) else if (Kx.pinned k ⟨4,e,f,cb,cc,bg⟩).2=2 then (k,0,3) else (⟨k.mem,(Kx.pinned k ⟨4,e,f,cb,cc,bg⟩).1,k.ah,k.cache⟩,0,0)) by rw [HV.o,wR];rfl);have HP:=af (wS k ⟨4,e,f,cb,cc,bg⟩ e f _ _ _ _ w3 HO.o.rk bF.o Hs.o rfl he rfl hf (fun _=>UL.o (by simp)) mW.o)
     clear wR;have p0:=X0.o.c4;obtain ⟨c0,c1,c2,c3,c4,c5⟩:=X1.o.c6;go_wp2_with fail;refine HP.o.mono ?_;rintro en w4 ⟨u4,rfl,ho,hb⟩;clear p0 c0 c1 c2 c3 c4 c5;obtain ⟨a5,c5,rfl,_,_⟩:=RS.val ho.rs;have HI:=af ho;have z3:=Bw.o.size;clear ho HP;obtain ⟨X0,X1,X2,HO,Bw,zz⟩:=ru hb aC.o s0 X0 X1 X2 HO Bw;clear hb zz;obtain ⟨L,hL⟩:=XP ((Kx.pinned k ⟨4,e,f,cb,cc,bg⟩).1);obtain ⟨code,hcode⟩:=XP ((Kx.pinned k ⟨4,e,f,cb,cc,bg⟩).2);rw [hL] at HI HV ⊢;rw [hcode] at HV ⊢;clear hL hcode
     by_cases h1:code=1
     ·subst h1;have HF:=af (show lu k ⟨4,e,f,cb,cc,bg⟩=(k,0,2) by rw [HV.o,if_pos rfl]);clear HV;have p0:=X0.o.c4;have r0:=X2.o.c4;have jh:=X2.o.f4;go_wp2_with fail;exact afj HF.o X2.o Bw.o aC.o fun _ a b c d=>by simp [results,results223,go_sem,a,b,c,d]
     by_cases h2:code=2
     ·subst h2;have HF:=af (show lu k ⟨4,e,f,cb,cc,bg⟩=(k,0,3) by rw [HV.o,if_neg (by decide),if_pos rfl]);clear HV;have p0:=X0.o.c4;have r0:=X2.o.c4;have jh:=X2.o.f4;go_wp2_with fail;exact afj HF.o X2.o Bw.o aC.o fun _ a b c d=>by simp [results,results223,go_sem,a,b,c,d]
     have HF:=af (show lu k ⟨4,e,f,cb,cc,bg⟩=(⟨k.mem,L,k.ah,k.cache⟩,0,0) by rw [HV.o,if_neg h1,if_neg h2]);have HK:=af (show KO w4 base _ _ _ _ ⟨k.mem,L,k.ah,k.cache⟩ from ⟨HO.o.m,HI.o.mono (by have:=aC.o;omega),HO.o.e,HO.o.c⟩);have h1b:(code==1)=false:=by simpa using h1
     have h2b:(code==2)=false:=by simpa using h2
     clear HV HI;have p0:=X0.o.c4;have r0:=X2.o.c4;have jh:=X2.o.f4;have UN:=X0.o.frozen 1;obtain ⟨X0,X1,X2,HK,Bw⟩:=Gt (A0 a5 L.length c5) (by omega) (by omega) (by have:=aC.o;omega) X0 X1 X2 HK Bw;go_wp2_with fail;exact afk HF.o X2.o Bw.o aC.o HK.o fun _ a b c d=>by simp [results,results223,go_sem,a,b,c,d]
   go_still_tail 10,(by kernel_rfl)
   go_wp2_with fail;refine HM.o.mono ?_;rintro en w3 ⟨rfl,hb⟩;replace hb:=Below.gG hb;clear p0 HM g0 g1;clear c0 c1 c2 c3 c4 c5;obtain ⟨X0,X1,X2,HO,Bw,zz⟩:=ru hb aC.o s0 X0 X1 X2 HO Bw;clear hb zz
   cases wR:jQ k e (Kx.inf k.ag f).guard with
   | false =>
    have HF:=af (show lu k ⟨bQ,e,f,cb,cc,bg⟩=(k,0,1) by rw [HV.o,wR];rfl);clear HV wR;have p0:=X0.o.c4;have r0:=X2.o.c4;have jh:=X2.o.f4;go_wp2_with fail;exact afj HF.o X2.o Bw.o aC.o fun _ a b c d=>by simp [results,results223,go_sem,a,b,c,d]
   | true =>
    have HV:=af (show lu k ⟨bQ,e,f,cb,cc,bg⟩=(if (Kx.pinned k ⟨bQ,e,f,cb,cc,bg⟩).2=1 then (k,0,2) else if (Kx.pinned k ⟨bQ,e,f,cb,cc,bg⟩).2=2 then (k,0,3) else (⟨k.mem,(Kx.pinned k ⟨bQ,e,f,cb,cc,bg⟩).1,k.ah,k.cache⟩,0,0)) by rw [HV.o,wR];rfl);have HP:=af (wS k ⟨bQ,e,f,cb,cc,bg⟩ e f _ _ _ _ w3 HO.o.rk bF.o Hs.o rfl he rfl hf (fun hh=>UL.o (by simpa using hh)) mW.o)
    clear wR;have p0:=X0.o.c4;obtain ⟨c0,c1,c2,c3,c4,c5⟩:=X1.o.c6;go_wp2_with fail;refine HP.o.mono ?_;rintro en w4 ⟨u4,rfl,ho,hb⟩;clear p0 c0 c1 c2 c3 c4 c5;obtain ⟨a5,c5,rfl,_,_⟩:=RS.val ho.rs;have HI:=af ho;have z3:=Bw.o.size;clear ho HP;obtain ⟨X0,X1,X2,HO,Bw,zz⟩:=ru hb aC.o s0 X0 X1 X2 HO Bw;clear hb zz;obtain ⟨L,hL⟩:=XP ((Kx.pinned k ⟨bQ,e,f,cb,cc,bg⟩).1);obtain ⟨code,hcode⟩:=XP ((Kx.pinned k ⟨bQ,e,f,cb,cc,bg⟩).2);rw [hL] at HI HV ⊢;rw [hcode] at HV ⊢;clear hL hcode
    by_cases h1:code=1
    ·subst h1;have HF:=af (show lu k ⟨bQ,e,f,cb,cc,bg⟩=(k,0,2) by rw [HV.o,if_pos rfl]);clear HV;have p0:=X0.o.c4;have r0:=X2.o.c4;have jh:=X2.o.f4;go_wp2_with fail;exact afj HF.o X2.o Bw.o aC.o fun _ a b c d=>by simp [results,results223,go_sem,a,b,c,d]
    by_cases h2:code=2
    ·subst h2;have HF:=af (show lu k ⟨bQ,e,f,cb,cc,bg⟩=(k,0,3) by rw [HV.o,if_neg (by decide),if_pos rfl]);clear HV;have p0:=X0.o.c4;have r0:=X2.o.c4;have jh:=X2.o.f4;go_wp2_with fail;exact afj HF.o X2.o Bw.o aC.o fun _ a b c d=>by simp [results,results223,go_sem,a,b,c,d]
    have HF:=af (show lu k ⟨bQ,e,f,cb,cc,bg⟩=(⟨k.mem,L,k.ah,k.cache⟩,0,0) by rw [HV.o,if_neg h1,if_neg h2]);have HK:=af (show KO w4 base _ _ _ _ ⟨k.mem,L,k.ah,k.cache⟩ from ⟨HO.o.m,HI.o.mono (by have:=aC.o;omega),HO.o.e,HO.o.c⟩);have h1b:(code==1)=false:=by simpa using h1
    have h2b:(code==2)=false:=by simpa using h2
    clear HV HI;have p0:=X0.o.c4;have r0:=X2.o.c4;have jh:=X2.o.f4;have UN:=X0.o.frozen 1;obtain ⟨X0,X1,X2,HK,Bw⟩:=Gt (A0 a5 L.length c5) (by omega) (by omega) (by have:=aC.o;omega) X0 X1 X2 HK Bw;go_wp2_with fail;exact afk HF.o X2.o Bw.o aC.o HK.o fun _ a b c d=>by simp [results,results223,go_sem,a,b,c,d]
theorem KO.aF (h:KO w base um ui ue uc k) (hf:f<k.ag.length) :
  ∃ b cap,ui=A0 (some ⟨b,0,none⟩) k.ag.length cap/\base<=b/\b<w.heap.size/\(∃ cs,w.heap[b]?=some (.cells cs 98 (0,0)))/\(∃ z,w.cell? ⟨b,f*3+2,none⟩=some z)/\w.frozen? ⟨b,f*3+2,none⟩=false /\
   w.cell? ⟨b,f*3+2,none⟩=some (I_ (Kx.inf k.ag f).refs)/\∀ x,KO (w.setCell ⟨b,f*3+2,none⟩ (I_ x)) base um ui ue uc { k with ag:=k.ag.set f { Kx.inf k.ag f with refs:=x } }:=by
 obtain ⟨b,cap,rfl,hb1,hb2⟩:=h.i.shape (by omega);obtain ⟨cs,hcs⟩:=h.i.kind (g:=b) rfl;obtain ⟨hz,hfz⟩:=h.i.bP f hf 2 (by decide);obtain ⟨b2,off,cap2,ev,_,_,_,q⟩:=bV.at h.i.rs hf;obtain ⟨⟨rfl,rfl,_⟩,_,rfl⟩:=Zb ev;clear ev;rw [Nat.zero_add] at q;refine ⟨b,cap,rfl,hb1,hb2,⟨cs,hcs⟩,hz,hfz,q,fun x=>?_⟩
 have hg:=aK w b (f*3+2) (I_ x);have hs:(w.setCell ⟨b,f*3+2,none⟩ (I_ x)).heap.size=w.heap.size:=by simp [World.setCell]
 refine ⟨?_,h.i.aF rfl f x hf,?_,h.c.dh hg hcs (by decide)⟩
 ·rw [hs];exact h.m.dh hg hcs (by decide) (by decide)
 rw [hs];exact h.e.dh hg hcs (by decide) (by decide)
theorem nO {l:List Kx.Env} (he:e<l.length):l[e]=au l e:=by simp [au,he]
theorem OE.dE (h:OE w base hi u es) (he:e<es.length) :
  ∃ b cap,u=A0 (some ⟨b,0,none⟩) es.length cap/\base<=b/\b<w.heap.size/\(∃ cs,w.heap[b]?=some (.cells cs 86 (0,0)))/\(∃ z,w.cell? ⟨b,e*2+1,none⟩=some z)/\w.frozen? ⟨b,e*2+1,none⟩=false /\
   ∀ x,OE (w.setCell ⟨b,e*2+1,none⟩ (I_ x)) base hi u (Kx.dE es e x):=by
 obtain ⟨ss,hl,ho,hr,hs⟩:=h;have hes:e<ss.length:=by omega
 obtain ⟨b,cap,rfl,hb1,hb2⟩:=ho.1.shape (by omega);obtain ⟨cs,hcs⟩:=ho.1.kind (g:=b) rfl;obtain ⟨hz,hfz⟩:=ho.1.bP e hes 1 (by decide);refine ⟨b,cap,by rw [hl],hb1,hb2,⟨cs,hcs⟩,hz,hfz,fun x=>?_⟩
 have hg:=aK w b (e*2+1) (I_ x);have hst:=(ho.1.1.stored (e*2+1) (I_ x)).1;have e0:=flat_get (f:=jG) (sz:=2) (fun _=>rfl) ss e 0 hes (by decide);have e2:flat jG (ss.set e (ss[e].1,x))=(flat jG ss).set (e*2+1) (I_ x):=by
  rw [oz (sz:=2) (fun _=>rfl) ss e _ hes];show (((flat jG ss).set (e*2) (dM ss[e].1)).set (e*2+1) (I_ x))=_;rw [lM (show (flat jG ss)[e*2]?=some (dM ss[e].1) from e0)]
 refine ⟨ss.set e (ss[e].1,x),by simp [Kx.dE,hl],⟨⟨?_,by simpa using ho.1.2⟩,ho.2⟩,fun i hi1 hi2=>?_,fun i j hi1 hj1 hij=>?_⟩
 ·rw [e2,A9];exact hst
 ·have hi0:i<ss.length:=by simpa using hi1
  have hi3:i<es.length:=by omega
  obtain ⟨q1,q2,q3,q4⟩:=hr i hi0 hi3
  by_cases ei:i=e
  ·subst ei;have e3:(Kx.dE es i x)[i]={ au es i with root:=x }:=by simp [Kx.dE]
   rw [e3,A6];rw [nO hi3] at q2;exact ⟨rfl,q2.dh hg hcs (by decide),q3,q4⟩
  have e3:(Kx.dE es e x)[i]=es[i]:=by simp [Kx.dE,A4 (Ne.symm ei)]
  rw [e3,A4 (Ne.symm ei)];exact ⟨q1,q2.dh hg hcs (by decide),q3,q4⟩
 have hi0:i<ss.length:=by simpa using hi1
 have hj0:j<ss.length:=by simpa using hj1
 have q:∀ m (hm:m<(ss.set e (ss[e].1,x)).length),(ss.set e (ss[e].1,x))[m].1=(ss[m]'(by simpa using hm)).1:=by
  intro m hm
  by_cases em:m=e
  ·subst em;rw [A6]
  rw [A4 (Ne.symm em)]
 rw [q i hi1,q j hj1];exact hs i j hi0 hj0 hij
theorem OE.aY (h:OE w base hi u es) (Dt:base<=hi) (hhi:hi<=w.heap.size) (he:e<es.length) (s:qj) (xs:List Kx.Str) (hn:OS df 1 9 w hi (dM s) xs) :
  ∃ b cap,u=A0 (some ⟨b,0,none⟩) es.length cap/\base<=b/\b<w.heap.size/\(∃ cs,w.heap[b]?=some (.cells cs 86 (0,0)))/\(∃ z,w.cell? ⟨b,e*2,none⟩=some z)/\w.frozen? ⟨b,e*2,none⟩=false /\
   OE (w.setCell ⟨b,e*2,none⟩ (dM s)) base w.heap.size u (Kx.aY es e xs):=by
 obtain ⟨ss,hl,ho,hr,hs⟩:=h;have hes:e<ss.length:=by omega
 obtain ⟨b,cap,rfl,hb1,hb2⟩:=ho.1.shape (by omega);obtain ⟨cs,hcs⟩:=ho.1.kind (g:=b) rfl;obtain ⟨hz,hfz⟩:=ho.1.bP e hes 0 (by decide);rw [Nat.add_zero] at hz hfz;have hg:=aK w b (e*2) (dM s);have hst:=(ho.1.1.stored (e*2) (dM s)).1;have e1:=flat_get (f:=jG) (sz:=2) (fun _=>rfl) ss e 1 hes (by decide);have e2:flat jG (ss.set e (s,ss[e].2))=(flat jG ss).set (e*2) (dM s):=by
  rw [oz (sz:=2) (fun _=>rfl) ss e _ hes];show (((flat jG ss).set (e*2) (dM s)).set (e*2+1) (I_ ss[e].2))=_;rw [lM (show ((flat jG ss).set (e*2) (dM s))[e*2+1]?=some (I_ ss[e].2) by rw [List.getElem?_set_ne (by omega)];exact e1)]
 have hub:=hn.ub;refine ⟨b,cap,by rw [hl],hb1,hb2,⟨cs,hcs⟩,hz,hfz,ss.set e (s,ss[e].2),by simp [Kx.aY,hl],⟨⟨?_,by simpa using ho.1.2⟩,ho.2.mono hhi⟩,fun i hi1 hi2=>?_,fun i j hi1 hj1 hij=>?_⟩
 ·rw [e2,A9];exact hst
 ·have hi0:i<ss.length:=by simpa using hi1
  have hi3:i<es.length:=by omega
  obtain ⟨q1,q2,q3,q4⟩:=hr i hi0 hi3
  by_cases ei:i=e
  ·subst ei;have e3:(Kx.aY es i xs)[i]={ au es i with aB:=xs }:=by simp [Kx.aY]
   rw [e3,A6];rw [nO hi3] at q1;exact ⟨q1,(hn.dh hg hcs (by decide)).mono Dt,hub,qy hn ho.2⟩
  have e3:(Kx.aY es e xs)[i]=es[i]:=by simp [Kx.aY,A4 (Ne.symm ei)]
  rw [e3,A4 (Ne.symm ei)];exact ⟨q1,q2.dh hg hcs (by decide),q3.mono hhi,q4⟩
 have hi0:i<ss.length:=by simpa using hi1
 have hj0:j<ss.length:=by simpa using hj1
 by_cases ei:i=e
 ·subst ei;rw [A6,A4 (by omega)];exact Jz hn (hr j hj0 (by omega)).2.2.1
 by_cases ej:j=e
 ·subst ej;rw [A6,A4 (by omega)];exact qy hn (hr i hi0 (by omega)).2.2.1
 rw [A4 (by omega),A4 (by omega)];exact hs i j hi0 hj0 hij
theorem KO.dE (h:KO w base um ui ue uc k) (he:e<k.ah.length) :
  ∃ b cap,ue=A0 (some ⟨b,0,none⟩) k.ah.length cap/\base<=b/\b<w.heap.size/\(∃ cs,w.heap[b]?=some (.cells cs 86 (0,0)))/\(∃ z,w.cell? ⟨b,e*2+1,none⟩=some z)/\w.frozen? ⟨b,e*2+1,none⟩=false /\
   ∀ x,KO (w.setCell ⟨b,e*2+1,none⟩ (I_ x)) base um ui ue uc { k with ah:=Kx.dE k.ah e x }:=by
 obtain ⟨b,cap,h1,h2,h2b,⟨cs,h3⟩,h4,h5,h6⟩:=h.e.dE he;refine ⟨b,cap,h1,h2,h2b,⟨cs,h3⟩,h4,h5,fun x=>?_⟩
 have hg:=aK w b (e*2+1) (I_ x);have hs:(w.setCell ⟨b,e*2+1,none⟩ (I_ x)).heap.size=w.heap.size:=by simp [World.setCell]
 refine ⟨?_,h.i.dh hg h3 (by decide),?_,h.c.dh hg h3 (by decide)⟩
 ·rw [hs];exact h.m.dh hg h3 (by decide) (by decide)
 rw [hs];exact h6 x
theorem KO.aY (h:KO w base um ui ue uc k) (hE:OE w base hi ue k.ah) (Dt:base<=hi) (hhi:hi<=w.heap.size) (he:e<k.ah.length) (s:qj) (xs:List Kx.Str) (hn:OS df 1 9 w hi (dM s) xs) :
  ∃ b cap,ue=A0 (some ⟨b,0,none⟩) k.ah.length cap/\base<=b/\b<w.heap.size/\(∃ cs,w.heap[b]?=some (.cells cs 86 (0,0)))/\(∃ z,w.cell? ⟨b,e*2,none⟩=some z)/\w.frozen? ⟨b,e*2,none⟩=false /\
   KO (w.setCell ⟨b,e*2,none⟩ (dM s)) base um ui ue uc { k with ah:=Kx.aY k.ah e xs }:=by
 obtain ⟨b,cap,h1,h2,h2b,⟨cs,h3⟩,h4,h5,h6⟩:=hE.aY Dt hhi he s xs hn;have hg:=aK w b (e*2) (dM s);have hs:(w.setCell ⟨b,e*2,none⟩ (dM s)).heap.size=w.heap.size:=by simp [World.setCell]
 refine ⟨b,cap,h1,h2,h2b,⟨cs,h3⟩,h4,h5,?_,h.i.dh hg h3 (by decide),?_,h.c.dh hg h3 (by decide)⟩
 ·rw [hs];exact h.m.dh hg h3 (by decide) (by decide)
 rw [hs];exact h6
theorem G6 (c:List Kx.Str) (s:Kx.Str) (v:Value) (w:World) (h:dK w v c):Calls prog 283 #[v,.string s] w (yu df 1 9 w (jm c s)):=by
 obtain ⟨a,cap,rfl,_,_⟩:=RS.val h;have hl:=h.1;have H:=af (show dK w _ c from h);clear h;go_enter func283,ntmps283;go_wp2_with fail;go_loopw [5,6] (fun out i wr=>∃ k:Nat,i=I_ k/\k<=c.length/\TI (OS df 1 9 wr w.heap.size out (jm (c.take k) s))/\TI (Below w.heap.size w wr)) (fun _ i _=>c.length - (intOf i).toNat)
 case atStart=>exact ⟨0,rfl,Nat.zero_le _,OS.d_ aW,fZ.alloc aW _⟩
 case round =>
  obtain ⟨k,rfl,hk,ho,hb⟩:=hrel
  by_cases hlt:k<c.length
  ·have kQ:(k:Int)<(c.length:Int):=by omega
   obtain ⟨b,off,cap',ev,hbl,g0⟩:=dK.at (RS.below H.o hb.o) (k:=k) hlt;obtain ⟨rfl,_,rfl⟩:=Za ev;clear ev;have htk:c.take (k+1)=c.take k ++ [c[k]]:=by rw [A3 hlt]
   generalize c[k]=x at g0 htk;have Ht:=af (show jm (c.take (k+1)) s=jm (c.take k) s ++ jm [x] s by rw [htk];simp [jm]);have Hlen:=af (show (jm (c.take k) s).length<=k from A' (A5 _ _) (List.length_take_le _ _));clear htk hbl
   cases hx:Kx.pre s x with
   | true =>
    have Hx:=af (show jm [x] s=[] by simp [jm,hx]);have Hp:=af hx;clear hx;go_wp2_with fail;refine (mY s x _).mono ?_;rintro e w2 ⟨rfl,rfl⟩;rw [Hp.o];go_wp2_with fail;go_roundw
    case rel=>exact ⟨k+1,by go_num,by omega,by show OS _ _ _ _ _ _ _;rw [Ht.o,Hx.o,List.append_nil];exact ho.o,hb.o⟩
    case measure=>simp [intOf];omega
   | false =>
    have Hx:=af (show jm [x] s=[x] by simp [jm,hx]);have Hp:=af hx;clear hx;have hsz:=af hb.o.size;have hxl:=af (show (jm (c.take k) s).length+1<=1099511627776 by have:=Hlen.o;omega);go_wp2_with fail;refine (mY s x _).mono ?_;rintro e w2 ⟨rfl,rfl⟩;rw [Hp.o];go_wp2_with (at_builtin;refine aV gX rfl _ _ rfl w.heap.size _ (jm (c.take k) s) rfl (ho.o.alloc _) _ [x] rfl (RS.one x #[.string x] rfl _ _) hxl.o (by simp;exact Ab hsz.o) ?_;intro v' w3 ho3 hg3 _;have jJ:=af ho3;have ql:=af hg3;clear ho3 hg3);go_roundw
    case rel =>
     refine ⟨k+1,by go_num,by omega,?_,?_⟩
     ·show OS _ _ _ _ _ _ _;rw [Ht.o,Hx.o];exact jJ.o
     exact Below.dN (hb.o.alloc hb.o.size _) (ho.o.alloc _) ql.o aW (by simp;exact Ab hsz.o)
    case measure=>simp [intOf];omega
  have hkn:k=c.length:=by omega
  subst hkn;go_wp2_with fail;go_ret;exact ⟨_,rfl,by have:=ho.o;rw [List.take_length] at this;exact this,hb.o⟩
def iU (k:Kx.Kernel) (t:Int) (j:Nat):List Nat:=(List.range j).filter fun i=>iy k.mem (au k.ah i) t
theorem BG (k:Kx.Kernel) (t:Int) (j:Nat) (b:Bool) (hb:iy k.mem (au k.ah j) t=b):iU k t (j+1)=iU k t j ++ if b then [j] else []:=by
 subst hb;exact qA _ j
theorem Du (k:Kx.Kernel) (t:Int) (j:Nat):(iU k t j).length<=j:=A' (A5 _ _) (by simp)
theorem E8 (k:Kx.Kernel) (t:Nat) (vm vi ve vc:Value) (w:World) (h:RK w vm vi ve vc k) (hmo:bW k.mem=true) (hro:∀ e,e<3->(au k.ah e).root<=11) (h3:k.ah.length=3) :
  Calls prog 281 #[.agg #[vm,vi,ve,vc],I_ t] w (mZ w (fU (kw k t))):=by
 obtain ⟨_,am,cm,rfl,_,_⟩:=h.m.len;obtain ⟨_,ae,ce,rfl,_,_⟩:=h.e.len;obtain ⟨w0,hw0⟩:=XP (w.alloc (.cells #[A0 am k.mem.length cm,vi,A0 ae k.ah.length ce,vc] 28));have B0:=af (show Below w.heap.size w w0 from hw0 ▸ dm);have X0:=af (show BX w0 w.heap.size 28 [A0 am k.mem.length cm,vi,A0 ae k.ah.length ce,vc] from hw0 ▸ BX.new w _ _);have HM:=af (h.m.below B0.o);have HE:=af (h.e.below B0.o);have kG:=af hmo;have mW:=af hro;have H3:=af h3;have HF:=af (show kw k t=iU k t k.ah.length from rfl);have hel:k.ah.length<=3:=by omega
 clear h hmo hro h3;go_enter func281,ntmps281;go_wp2_with fail;go_loopw [5,6,7] (fun out i _ wr=>∃ j:Nat,i=I_ j/\j<=k.ah.length/\TI (OI wr w0.heap.size out (fU (iU k t j)))/\TI (Below w0.heap.size w0 wr)) (fun _ i _ _=>k.ah.length - (intOf i).toNat)
 case atStart=>exact ⟨0,rfl,Nat.zero_le _,OI.d_ aW,fZ.alloc aW _⟩
 case round =>
  obtain ⟨j,rfl,hj,ho,hb⟩:=hrel;have X:=X0.o.below hb.o;have p0:=X.cell 0;have p2:=X.cell 2;simp only [A1,A2] at p0 p2;clear X
  by_cases hlt:j<k.ah.length
  ·have kQ:(j:Int)<(k.ah.length:Int):=by omega
   obtain ⟨b,off,cap',u,ev,hbl,_,g1,_⟩:=(HE.o.below hb.o).at hlt;obtain ⟨rfl,_,rfl⟩:=Za ev;clear ev;have lL:=mW.o j (by omega);have yw:=af (BG k t j);have Hlen:=af (Du k t j);have HU:=af (show iy k.mem (au k.ah j) t=((au k.ah j).root==(t:Int)||(!decide ((au k.ah j).root<0)&&(Kx.tables k.mem (au k.ah j).root.toNat).contains t)) from rfl);have hsz:=af hb.o.size;generalize iy k.mem (au k.ah j) t=us at yw HU;generalize (au k.ah j).root=r at g1 lL HU;have hxl:=af (show (fU (iU k t j)).length+1<=1099511627776 by rw [aQ];have:=Hlen.o;omega)
   by_cases hrt:r=t
   ·have Hs:=af (show iU k t (j+1)=iU k t j ++ [j] by rw [yw.o us rfl,HU.o,hrt];simp);subst hrt;clear yw HU lL;go_wp2_with (at_builtin;refine kW rfl _ _ rfl w0.heap.size _ (fU (iU k t j)) rfl (ho.o.alloc _) _ 1 1 [(j:Int)] rfl rfl (cell_one_new _ _ _) hxl.o (by simp;exact Ab hsz.o) ?_;intro v' w3 ho3 hg3;have jJ:=af ho3;have ql:=af hg3;clear ho3 hg3);go_roundw
    case rel =>
     refine ⟨j+1,by go_num,by omega,?_,?_⟩
     ·show OI _ _ _ _;rw [Hs.o,jv];exact jJ.o
     exact Below.app (hb.o.alloc hb.o.size _) (ho.o.alloc _) ql.o aW (by simp;exact Ab hsz.o)
    case measure=>simp [intOf];omega
   have RN:(r==(t:Int))=false:=by simpa using hrt
   by_cases hr0:r<0
   ·have Hs:=af (show iU k t (j+1)=iU k t j by rw [yw.o us rfl,HU.o,RN,decide_eq_true hr0];simp);clear yw HU hrt;go_wp2_with fail;go_roundw
    case rel=>exact ⟨j+1,by go_num,by omega,by show OI _ _ _ _;rw [Hs.o];exact ho.o,hb.o⟩
    case measure=>simp [intOf];omega
   obtain ⟨q,rfl⟩:=Al (show 0<=r by omega);have HT:=af (sF k.mem q _ wr (HM.o.below hb.o) kG.o (by omega));have Yf:=af (show us=(Kx.tables k.mem q).contains t by rw [HU.o,RN,decide_eq_false hr0];simp);clear hrt;go_wp2_with fail;refine HT.o.mono ?_;rintro e w2 ⟨u2,rfl,ho2,hb2⟩;obtain ⟨a2,c2,rfl⟩:=ho2.ri.val;have HH:=af (BH _ (t:Int) _ w2 ho2.ri);have Ho:=af (ho.o.below hb2);have Hb:=af (hb.o.trans (hb2.mono hb.o.size));clear ho hb ho2 hb2 HT;go_wp2_with fail;refine HH.o.mono ?_;rintro e w3 ⟨rfl,rfl⟩;rw [yx,<-Yf.o];clear HH HU Yf p0 p2 g1;have hsz:=af Hb.o.size
   cases us with
   | false =>
    have Hs:=af (show iU k t (j+1)=iU k t j by rw [yw.o false rfl];simp);go_wp2_with fail;go_roundw
    case rel=>exact ⟨j+1,by go_num,by omega,by show OI _ _ _ _;rw [Hs.o];exact Ho.o,Hb.o⟩
    case measure=>simp [intOf];omega
   | true =>
    have Hs:=af (show iU k t (j+1)=iU k t j ++ [j] by rw [yw.o true rfl];simp);go_wp2_with (at_builtin;refine kW rfl _ _ rfl w0.heap.size _ (fU (iU k t j)) rfl (Ho.o.alloc _) _ 1 1 [(j:Int)] rfl rfl (cell_one_new _ _ _) hxl.o (by simp;exact Ab hsz.o) ?_;intro v' w4 iV hg4;have kH:=af iV;have rU:=af hg4;clear iV hg4);go_roundw
    case rel =>
     refine ⟨j+1,by go_num,by omega,?_,?_⟩
     ·show OI _ _ _ _;rw [Hs.o,jv];exact kH.o
     exact Below.app (Hb.o.alloc Hb.o.size _) (Ho.o.alloc _) rU.o aW (by simp;exact Ab hsz.o)
    case measure=>simp [intOf];omega
  have hjn:j=k.ah.length:=by omega
  go_wp2_with fail;go_ret;exact ⟨_,rfl,by rw [HF.o,<-hjn];exact ho.o.mono B0.o.size,B0.o.trans (hb.o.mono B0.o.size)⟩
theorem Dv (k:Kx.Kernel) (x:Int) (vm vi ve vc:Value) (w:World) (h:RK w vm vi ve vc k) (hmo:bW k.mem=true) (h12:k.ag.length=12) :
  Calls prog 280 #[.agg #[vm,vi,ve,vc],I_ x] w (mZ w (fU (Kx.behind k x))):=by
 obtain ⟨w0,hw0⟩:=XP (w.alloc (.cells #[vm,vi,ve,vc] 28));have B0:=af (show Below w.heap.size w w0 from hw0 ▸ dm)
 cases hen:Kx.entry x with
 | none =>
  have HF:=af (show Kx.behind k x=[] by unfold Kx.behind;rw [hen]);have He:=af hen;clear hen h;go_enter func280,ntmps280;go_wp2_with fail;refine (bM _ _).mono ?_;rintro e w' ⟨rfl,rfl⟩;rw [G7 He.o];go_wp2_with fail;go_ret;exact ⟨_,rfl,by rw [HF.o];exact OI.d_ B0.o.size,Below.alloc B0.o B0.o.size _⟩
 | some pr =>
  obtain ⟨f,bw⟩:=pr;have hf:=dU hen;have HF:=af (show Kx.behind k x=if (Kx.inf k.ag f).kind≠2 then [f] else f :: ax (Kx.row k.mem f) by unfold Kx.behind;rw [hen]);have He:=af hen;clear hen;have X0:=af (show BX w0 w.heap.size 28 [vm,vi,ve,vc] from hw0 ▸ BX.new w _ _);have HI:=af (RS.below h.i B0.o);obtain ⟨bi,oi,ci,rfl,zN,g0,_,_⟩:=bV.at HI.o (k:=f) (by omega);obtain ⟨bm,om,cm,um,rfl,hcm,m_⟩:=(h.m.below B0.o).row hmo hf;obtain ⟨uk,hr4,_⟩:=mem_row hmo hf;have wJ:(f:Int)<(k.ag.length:Int):=by omega
  have ZO:(f:Int)<12:=by omega
  obtain ⟨p0,p1,_,_⟩:=X0.o.c4;clear h h12 uk
  by_cases hk2:(Kx.inf k.ag f).kind=2
  ·have HF:=af (show Kx.behind k x=f :: ax (Kx.row k.mem f) by rw [HF.o,if_neg (by rw [hk2];simp)]);rw [hk2] at g0;have HL:=af (show [(f:Int)].length+(fU (ax (Kx.row k.mem f))).length<=1099511627776 by
    rw [aQ];have:(ax (Kx.row k.mem f)).length<=4:=by rw [<-hr4];unfold ax;exact List.length_filterMap_le _ _
    simp;omega)
   have hbm:=af (World.block_lt_of_cell? w0 _ hcm);have Jo:=af m_;obtain ⟨ar,cr,rfl⟩:=m_.val;clear hk2 m_ hr4;generalize Kx.row k.mem f=row at *;go_enter func280,ntmps280;go_wp2_with fail;refine (bM _ _).mono ?_;rintro e w' ⟨rfl,rfl⟩;rw [C_ He.o];obtain ⟨w1,hw1⟩:=XP (w0.alloc (.cells #[I_ (f:Int)] 3));have B1:Below w0.heap.size w0 w1:=hw1 ▸ dm;have H1:=af (show OS iR 1 3 w1 w0.heap.size (A0 (some ⟨w0.heap.size,0,none⟩) 1 1) [(f:Int)] from hw1 ▸ OS.lit (l:=[(f:Int)]) aW _ rfl rfl (by simp));have p0:=((X0.o.below B1).cell 0);have p1:=((X0.o.below B1).cell 1);simp only [A1,A2] at p0 p1;have hcm:=(B1.cell hbm.o).trans hcm;have g0:=(B1.cell (p:=⟨bi,oi+f*3,none⟩) zN).trans g0;have HN:=af (oC row _ w1 (Jo.o.below B1));have B2:=af (B0.o.trans (B1.mono B0.o.size));clear B1
   go_wp2_with fail;refine HN.o.mono ?_;rintro e w2 ⟨u2,rfl,ho2,hb2⟩;have l7:=af ho2;have H2:=af (H1.o.below hb2);have B3:=af (B2.o.trans (hb2.mono B2.o.size));have hz2:=af (A' (show w0.heap.size<=w1.heap.size by rw [<-hw1];simp) hb2.size);clear ho2 hb2 hw1;have hz0:=af B0.o.size;go_wp2_with (at_builtin;refine aV wK rfl _ _ rfl w0.heap.size _ [(f:Int)] rfl H2.o _ (fU (ax row)) rfl l7.o.os.rs HL.o hz2.o ?_;intro v' w3 ho3 hg3 hn3;have jJ:=af ho3;have Hb3:=af (Below.dN B3.o H2.o hg3 hz0.o B3.o.size);clear ho3 hg3 hn3);go_ret;exact ⟨_,rfl,by rw [HF.o];exact (OS.mono jJ.o hz0.o).oi,Hb3.o⟩
  have HF:=af (show Kx.behind k x=[f] by rw [HF.o,if_pos hk2]);have hkb:((Kx.inf k.ag f).kind != 2)=true:=by simpa using hk2
  generalize (Kx.inf k.ag f).kind=kd at g0 hkb;clear hk2;go_enter func280,ntmps280;go_wp2_with fail;refine (bM _ _).mono ?_;rintro e w' ⟨rfl,rfl⟩;rw [C_ He.o];go_wp2_with fail;go_ret;exact ⟨_,rfl,by rw [HF.o];exact (OS.lit (l:=[(f:Int)]) (f:=iR) (sz:=1) (e:=3) B0.o.size _ rfl rfl (by simp)).oi,Below.alloc B0.o B0.o.size _⟩
theorem zQ {c:Kx.Call} (h:aO k c 0=0):∃ f:Nat,c.a=f/\f<12/\aX (Kx.inf k.ag f).kind=true:=by
 unfold aO at h;split at h
 ·exact absurd h (by decide)
 rename_i h1
 split at h
 ·exact absurd h (by decide)
 split at h
 ·exact absurd h (by decide)
 rename_i h3
 cases hin:Kx.bK c.a 0 11 with
 | false=>rw [hin] at h1;exact absurd rfl h1
 | true =>
  obtain ⟨a0,a11⟩:=Kx.ay.1 hin;obtain ⟨f,hf⟩:=Al a0;refine ⟨f,hf,by omega,?_⟩;rw [hf] at h3
  cases ht:aX (Kx.inf k.ag f).kind with
  | true=>rfl
  | false=>exact absurd (.inr ⟨rfl,ht⟩) h3
theorem below_drewN (w:World) (n:Nat):Below w.heap.size w (w.drewN n):=let h:=Below.refl w.heap.size w;⟨h.os,h.tape,h.output,h.size,h.block⟩
theorem uB (h:Kx.entry x=none):Ik x=false:=by have:=G7 h;simp only [Eg,Ending.returned.injEq,Value.tuple.injEq] at this;simp at this;exact this.2.2
theorem uC {b:Bool} (h:Kx.entry x=some (f,b)):Ik x=true/\FK x=f:=by have:=C_ h;simp only [Eg,Ending.returned.injEq,Value.tuple.injEq] at this;simp at this;exact ⟨this.2.2,this.1⟩
theorem J6 {t:Int}:∀ x ∈ kw k t,x<k.ah.length:=fun x hx=>by
 unfold kw at hx;exact List.mem_range.1 (List.mem_filter.1 hx).1
theorem Il:∀ g ∈ Kx.behind k x,g<12:=fun g hg=>by
 unfold Kx.behind at hg;split at hg
 ·cases hg
 rename_i f b he
 have hf:=dU he;split at hg
 ·simp only [List.mem_singleton] at hg;omega
 rcases List.mem_cons.1 hg with rfl | h
 ·exact hf
 exact nD h
theorem Gu {l:List Nat} (h:OI w base u (fU l)):∃ a c,u=A0 a l.length c:=by
 obtain ⟨a,c,e⟩:=h.ri.val;exact ⟨a,c,by rw [e,aQ]⟩
def M_ (w W:World) (base g0 g1 g2:Nat) (um ui ue uc:Value) (l1 l2:List Value) (k:Kx.Kernel):Prop:=
 BX W g0 28 [um,ui,ue,uc]/\BX W g1 59 l1/\BX W g2 28 l2/\KO W base um ui ue uc k/\Kept base w W
theorem M_.parts (h:M_ w W base g0 g1 g2 um ui ue uc l1 l2 k) :
  TI (BX W g0 28 [um,ui,ue,uc])/\TI (BX W g1 59 l1)/\TI (BX W g2 28 l2)/\TI (KO W base um ui ue uc k)/\TI (Kept base w W):=h
def iE (c:List Kx.Cached) (us:List Nat) (j:Nat):List Kx.Cached:=(us.take j).foldl (fun (ca:List Kx.Cached) (e:Nat)=>fP ca (e:Int)) c
theorem BU (c:List Kx.Cached) (us:List Nat) {j:Nat} (hj:j<us.length):iE c us (j+1)=fP (iE c us j) (us[j]:Int):=by
 unfold iE;rw [A3 hj,List.foldl_append];rfl
theorem yD {b t':Nat} {cs:Array Value} (o:Nat) (v:Value) (hk:W.heap[b]?=some (.cells cs t' (0,0))) (h1:28≠t') (h2:59≠t') (hg:base<=b) (X0:TI (BX W g0 28 l0)) (X1:TI (BX W g1 59 l1)) (X2:TI (BX W g2 28 l2)) (Bw:TI (Kept base w W)) (h3:¬ Box? t':=by decide) :
  TI (BX (W.setCell ⟨b,o,none⟩ v) g0 28 l0)/\TI (BX (W.setCell ⟨b,o,none⟩ v) g1 59 l1)/\TI (BX (W.setCell ⟨b,o,none⟩ v) g2 28 l2)/\TI (Kept base w (W.setCell ⟨b,o,none⟩ v)):=
 ⟨X0.o.other (X0.o.ne hk h1) o v,X1.o.other (X1.o.ne hk h2) o v,X2.o.other (X2.o.ne hk h1) o v,Bw.o.put hk hg h3 o v⟩
theorem nT {d:Int} (h:Kx.entry x=none):aP l x d=l:=by unfold aP;rw [h]
theorem nU {d:Int} {b:Bool} (h:Kx.entry x=some (f,b)):aP l x d=l.set f { Kx.inf l f with refs:=(Kx.inf l f).refs+d }:=by unfold aP;rw [h];rfl
theorem fH {d:Int}:(aP l x d).length=l.length:=by unfold aP;split <;> simp [Kx.aF]
theorem oI.jb {b d:Int} (h:oI b l) (hd:d=1\/d=-1) (h12:l.length=12):oI (b+1) (aP l x d):=by
 cases he:Kx.entry x with
 | none=>rw [nT he];intro g;have:=h g;omega
 | some p =>
  obtain ⟨f,bb⟩:=p;rw [nU he];exact h.set hd (by rw [h12];exact dU he)
end Go.Proofs.YthcmmoibpgcgaaaGreatDoor
