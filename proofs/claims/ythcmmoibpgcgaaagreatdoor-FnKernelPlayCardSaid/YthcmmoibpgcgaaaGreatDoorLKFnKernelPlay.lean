/- The law FnKernelPlay: calls follow each other. -/
import Derived.Test.YthcmmoibpgcgaaaGreatDoorKMn
import Derived.Test.YthcmmoibpgcgaaaGreatDoorKMa
set_option linter.all false
set_option maxHeartbeats 8000000
set_option maxRecDepth 100000
open Go.Proofs.Tryz
namespace Go.Proofs.YthcmmoibpgcgaaaGreatDoor
open Go.RowKit Kx

end Go.Proofs.YthcmmoibpgcgaaaGreatDoor
namespace Kx
def bf (k:Kernel) (c:Call):Kernel×Int:=if bK c.env 0 2 then ((cO k c).1,(cO k c).2.2) else (k,5)
theorem aj (s:Kernel×List Int) (c:Call):uK s c=((bf s.1 c).1,s.2 ++ [(bf s.1 c).2]):=by
 unfold uK bf;split <;> rfl
theorem bn (cs:List Call) (k:Kernel) {i:Nat} (hi:i<cs.length):(cs.take (i+1)).foldl uK (k,[])=uK ((cs.take i).foldl uK (k,[])) cs[i]:=by
 rw [List.take_succ_eq_append_getElem hi,List.foldl_append];rfl
theorem bi:∀ (cs:List Call) (k:Kernel) (l:List Int),(cs.foldl uK (k,l)).2.length=l.length+cs.length
 | [],_,_=>rfl
 | c :: cs,k,l=>by
  rw [List.foldl_cons,aj,bi cs];simp only [List.length_append,List.length_cons,List.length_nil];omega
end Kx
namespace Go.Proofs.YthcmmoibpgcgaaaGreatDoor
open Go.RowKit Kx

def xm (w:World) (base hi:Nat) (um ui ue uc:Value) (k:Kx.Kernel):Prop:=∀ V:World,w.heap.size<=V.heap.size->(∀ j,base<=j->j<hi->V.heap[j]?=w.heap[j]?)->RK V um ui ue uc k
theorem gp (g:Nat) (l:List Value) {j:Nat} (hj:j≠g):∀ (i:Nat) (w:World),(sets w g i l).heap[j]?=w.heap[j]?:=by
 induction l with
 | nil=>intro i w;rfl
 | cons v l ih=>intro i w;exact (ih (i+1) _).trans (Below.heap_setCell _ _ _ _ hj)
section
variable {w W V:World} {base hi g g4 g6:Nat} {um ui ue uc u0 u1 u2 u3 z0 z1 z2 z3 v v':Value} {k k':Kx.Kernel} {l:List Int}
theorem xm.to (h:xm w base hi um ui ue uc k) (hs:w.heap.size<=V.heap.size) (hk:∀ j,base<=j->j<hi->V.heap[j]?=w.heap[j]?):xm V base hi um ui ue uc k:=
 fun U h1 h2=>h U (Nat.le_trans hs h1) (fun j a b=>(h2 j a b).trans (hk j a b))
theorem KO.dV (h:KO w base um ui ue uc k):xm w base w.heap.size um ui ue uc k:=fun _ hs hk=>(h.up ⟨hs,hk⟩).rk
structure lm (w W:World) (g4 g6:Nat) (k:Kx.Kernel) (u0 u1 u2 u3 v:Value) (l:List Int):Prop where
 b:Below w.heap.size w W
 x4:BX W g4 28 [.slice none 0 0,.slice none 0 0,.slice none 0 0,.slice none 0 0]
 x6:BX W g6 28 [u0,u1,u2,u3]
 f:∃ base hi,g4<base/\(g6<base\/hi<=g6)/\hi<=W.heap.size/\(∀ b,v.ownBlock=some b->b<base\/hi<=b)/\xm W base hi u0 u1 u2 u3 k
 o:OI W w.heap.size v l
 ok:az k=true
 sl:Sl u0/\Sl u1/\Sl u2/\Sl u3
 h:w.heap.size<=g4/\g4<g6
theorem lm.below (h:lm w W g4 g6 k u0 u1 u2 u3 v l) (hb:Below W.heap.size W V):lm w V g4 g6 k u0 u1 u2 u3 v l:=by
 obtain ⟨base,hi,h0,h1,h2,h3,hk⟩:=h.f;exact ⟨h.b.trans (hb.mono h.b.size),h.x4.below hb,h.x6.below hb,⟨base,hi,h0,h1,Nat.le_trans h2 hb.size,h3,hk.to hb.size (fun j _ b=>hb.block j (by omega))⟩,h.o.below hb,h.ok,h.sl,h.h⟩
theorem lm.rk (h:lm w W g4 g6 k u0 u1 u2 u3 v l):RK W u0 u1 u2 u3 k:=by
 obtain ⟨base,hi,h0,h1,h2,h3,hk⟩:=h.f;exact hk W aW (fun _ _ _=>rfl)
theorem lm.call (h:lm w W g4 g6 k u0 u1 u2 u3 v l) (hb:Below W.heap.size W V) (ak:KO V W.heap.size z0 z1 z2 z3 k') (aB:az k'=true):lm w (sets V g6 0 [z0,z1,z2,z3]) g4 g6 k' z0 z1 z2 z3 v l:=by
 have h':=h.below hb;have hh:=h.h;have hl:=h.x6.lt;exact ⟨dP (by omega) _ 0 h'.b,BX.iq (by omega) _ 0 h'.x4,h'.x6.sets _ rfl,
  ⟨W.heap.size,V.heap.size,h.x4.lt,.inl hl,by rw [kD];exact Nat.le_refl _,fun b hb'=>.inl (h.o.lt b hb').2,ak.dV.to (by rw [kD];exact Nat.le_refl _) (fun j a _=>gp g6 _ (by omega) _ _)⟩,
  (OS.sets (by decide) _ 0 h'.x6 h'.o.os).oi,aB,ak.sl,hh⟩
theorem lm.app {x:Int} (h:lm w W g4 g6 k u0 u1 u2 u3 v l) (ho:OS iR 1 3 V w.heap.size v' (l ++ [x])) (hg:W.grownBy V v.ownBlock) (hv:v'.ownBlock=v.ownBlock\/v'.ownBlock=some W.heap.size):lm w V g4 g6 k u0 u1 u2 u3 v' (l ++ [x]):=by
 obtain ⟨base,hi,h0,h1,h2,h3,hk⟩:=h.f;exact ⟨Below.app h.b h.o hg aW h.b.size,h.x4.dw h.o.os hg (by decide),h.x6.dw h.o.os hg (by decide),
  ⟨base,hi,h0,h1,Nat.le_trans h2 hg.size,fun b hb=>by
   rcases hv with hv | hv
   ·exact h3 b (hv ▸ hb)
   rw [hv] at hb;simp only [Option.some.injEq] at hb;exact .inr (by omega),hk.to hg.size (fun j a b=>hg.block j (by omega) (fun e=>by have:=h3 j e.symm;omega))⟩,ho.oi,h.ok,h.sl,h.h⟩
end
def uq (w:World) (r:Kx.Kernel×List Int) (en:Ending) (w':World):Prop:=
 ∃ um ui ue uc v,en=.returned (.tuple #[.agg #[um,ui,ue,uc],v])/\RK w' um ui ue uc r.1/\RI w' v r.2/\Below w.heap.size w w'
def wz (w:World) (r:Kx.Kernel×List Int) (en:Ending) (w':World):Prop:=
 ∃ um ui ue uc v mid,en=.returned (.tuple #[.agg #[um,ui,ue,uc],v])/\w.heap.size<=mid/\KO w' mid um ui ue uc r.1/\OI w' w.heap.size v r.2/\(∀ b,v.ownBlock=some b->b<mid)/\Below w.heap.size w w'
theorem RK.slc {w:World} {um ui ue uc:Value} {k:Kx.Kernel} (h:RK w um ui ue uc k):Sl um/\Sl ui/\Sl ue/\Sl uc:=by
 obtain ⟨_,a1,c1,e1,_,_⟩:=h.m.len;obtain ⟨a2,c2,e2,_,_⟩:=RS.val h.i;obtain ⟨_,a3,c3,e3,_,_⟩:=h.e.len;obtain ⟨a4,c4,e4,_,_⟩:=RS.val h.c;exact ⟨⟨_,_,_,e1⟩,⟨_,_,_,e2⟩,⟨_,_,_,e3⟩,⟨_,_,_,e4⟩⟩
theorem ac' {P:Program} {ops:Array Oper} {Q:Exit->Act->World->Prop} {md:Region.Mode} {S:World->Prop} {o1:Oper} {v1:Value} {fuel:Nat} {listed l1:Array Bool} {a a1:Act} {w:World} (i:Nat) (h:wpAnyH P md ops Q S fuel l1 a1 w) (hS:S w:=by assumption) (h1:Stp P md ops Q S i o1 v1 listed l1 a a1:=by exact stp):wpAnyH P md ops Q S (fuel+1) listed a w:=h1.go hS h
theorem ae' {P:Program} {ops:Array Oper} {Q:Exit->Act->World->Prop} {md:Region.Mode} {S:World->Prop} {oi oj:Oper} {fuel:Nat} {listed:Array Bool} {a:Act} {w:World} (i j:Nat)
  (h:∀ K':Act->World->Prop,Shut (∀ a w,S w->(S w->wpAnyH P md ops Q S fuel (listed.setIfInBounds i true) a w)->K' a w)->Oper.wp P oi a w K' Q)
  (h':∀ K':Act->World->Prop,Shut (∀ a w,S w->(S w->wpAnyH P md ops Q S fuel (listed.setIfInBounds j true) a w)->K' a w)->Oper.wp P oj a w K' Q)
  (hi:ops[i]?=some oi:=by rfl) (hj:ops[j]?=some oj:=by rfl) (hr:Region.ready md ops listed=[i,j]:=by kernel_rfl) (hw:Region.wanted oi (yielded ops a.tmps)=true:=by rfl) (hw':Region.wanted oj (yielded ops a.tmps)=true:=by rfl) :
  wpAnyH P md ops Q S (fuel+1) listed a w:=
 wpAnyH_ready (rs:=[i,j]) hr (by simp) (AllReadyH.cons hi (fun K hK=>by rw [if_pos hw];exact h K hK) (AllReadyH.cons hj (fun K hK=>by rw [if_pos hw'];exact h' K hK) AllReadyH.nil))
theorem bu (k:Kx.Kernel) (cs:List Kx.Call) (vm vi ve vc vl:Value) (w:World) (h:RK w vm vi ve vc k) (hs:iQ k) (hl:Zj w vl cs) (cZ:∀ c ∈ cs,c.name.size<=9223372036854775807/\c.c<=9223372036854775807) :
  Calls prog 24 #[.agg #[vm,vi,ve,vc],vl] w (uq w (QI k cs)):=by
 obtain ⟨al,cl,rfl,_,_⟩:=RS.val hl;obtain ⟨⟨am,nm,cm,rfl⟩,⟨ai,ni,ci,rfl⟩,⟨ae,ne,ce,rfl⟩,⟨ac,nc,cq,rfl⟩⟩:=h.slc;obtain ⟨w0,bT⟩:=XP (w.alloc (.cells #[.slice am nm cm,.slice ai ni ci,.slice ae ne ce,.slice ac nc cq] 28));obtain ⟨w1,aQ⟩:=XP (w0.alloc (.cells #[.slice none 0 0,.slice none 0 0,.slice none 0 0,.slice none 0 0] 28));have B0:Below w.heap.size w w0:=bT ▸ dm;have B1:Below w0.heap.size w0 w1:=aQ ▸ dm;have s0:w.heap.size<w0.heap.size:=by rw [<-bT];simp
 have s1:w0.heap.size<w1.heap.size:=by rw [<-aQ];simp
 obtain ⟨w2,bV⟩:=XP (w1.alloc (.cells #[] 3));have B2:Below w1.heap.size w1 w2:=bV ▸ dm;have Bw:=af (show Below w.heap.size w w2 from B0.trans ((B1.trans (B2.mono B1.size)).mono B0.size));have X0:=af (show BX w2 w.heap.size 28 [.slice am nm cm,.slice ai ni ci,.slice ae ne ce,.slice ac nc cq] from ((bT ▸ BX.new w _ _:BX w0 _ _ _).below B1).below B2);have X2:=af (show BX w2 w0.heap.size 28 [.slice none 0 0,.slice none 0 0,.slice none 0 0,.slice none 0 0] from (aQ ▸ BX.new w0 _ _:BX w1 _ _ _).below B2);have aZ:=af (show OI w2 w.heap.size (.slice (some ⟨w1.heap.size,0,none⟩) 0 0) [] from bV ▸ OI.d_ (by omega));have s2:w1.heap.size<w2.heap.size:=by rw [<-bV];simp
 clear B2;have HR:=af (show RK w _ _ _ _ k from h);have HL:=af hl;have HS:=af hs;have df:=af cZ;have HV:=af (kJ k _ _ _ _ w2 (HR.o.below Bw.o) hs);have HK:=af (show QI k cs=if !az k then (Kx.Kernel.zero,[]) else cs.foldl Kx.uK (k,[]) from rfl);clear h hs hl cZ B0 B1;go_enter func24,ntmps24;have p0:=X0.o.c4;go_wp2_with fail;clear bT aQ bV;refine HV.o.mono ?_;rintro en w3 ⟨rfl,hb⟩;clear HV p0;replace X0:=af (X0.o.below hb);replace X2:=af (X2.o.below hb);replace aZ:=af (aZ.o.below hb);have dh:=af (show w2.heap.size<=w3.heap.size from hb.size);replace Bw:=af (Bw.o.trans (hb.mono Bw.o.size));have p0:=X0.o.c4;clear hb
 cases aB:az k with
 | false =>
  have HF:=af (show QI k cs=(Kx.Kernel.zero,[]) by rw [HK.o,aB];rfl);clear aB;obtain ⟨r0,r1,r2,r3⟩:=X2.o.c4;obtain ⟨jh,ji,jk,jl⟩:=X2.o.f4;go_wp2_with fail;obtain ⟨F,hF⟩:=XP (sets w3 w0.heap.size 0 [.slice none 0 0,.slice none 0 0,.slice none 0 0,.slice none 0 0]);rw [afA w3,hF];have BF:Below w.heap.size w F:=hF ▸ dP (by omega) _ 0 Bw.o;have di:BX F w0.heap.size 28 [.slice none 0 0,.slice none 0 0,.slice none 0 0,.slice none 0 0]:=hF ▸ X2.o.sets _ rfl;obtain ⟨e0,e1,e2,e3⟩:=di.c4
  refine af7 (by simp [results,results24,go_sem,e0,e1,e2,e3]<;>rfl) ?_;rw [HF.o];exact ⟨_,_,_,_,_,rfl,(KO.zero F 0).rk,(hF ▸ (OS.sets (by decide) _ 0 X2.o aZ.o.os):OS iR 1 3 F _ _ _).oi.ri,BF⟩
 | true =>
  have HF:=af (show QI k cs=cs.foldl Kx.uK (k,[]) by rw [HK.o,aB];rfl);have dH:=af (show Calls prog 85 #[.agg #[.slice am nm cm,.slice ai ni ci,.slice ae ne ce,.slice ac nc cq]] w3 _ from by obtain ⟨hl1,hl2,hl3,hl4,hl5⟩:=nR aB;exact vg k _ _ _ _ w3 (HR.o.below Bw.o) hl1 hl2 hl3 hl4 hl5);go_wp2_with fail;refine dH.o.mono ?_;rintro en w4 ⟨um,ui,ue,uc,rfl,ak,hb⟩;clear dH p0 HK;obtain ⟨⟨a0,n0,m0,rfl⟩,⟨a1,n1,m1,rfl⟩,⟨a2,n2,m2,rfl⟩,⟨a3,n3,m3,rfl⟩⟩:=ak.sl;obtain ⟨w5,aS⟩:∃ V,w4.alloc (.cells #[.slice a0 n0 m0,.slice a1 n1 m1,.slice a2 n2 m2,.slice a3 n3 m3] 28)=V:=⟨_,rfl⟩;have B5:Below w4.heap.size w4 w5:=aS ▸ dm;have bM:=hb.trans (B5.mono hb.size);have YJ:=hb.size
  have H:=af (show lm w w5 w0.heap.size w4.heap.size k (.slice a0 n0 m0) (.slice a1 n1 m1) (.slice a2 n2 m2) (.slice a3 n3 m3) (.slice (some ⟨w1.heap.size,0,none⟩) 0 0) [] from
   ⟨Bw.o.trans (bM.mono Bw.o.size),X2.o.below bM,aS ▸ BX.new w4 _ _,
    ⟨w3.heap.size,w4.heap.size,by have:=dh.o;omega,.inr aW,B5.size,fun b hb'=>.inl (aZ.o.lt b hb').2,ak.dV.to B5.size (fun j _ h2=>B5.block j h2)⟩,aZ.o.below bM,aB,ak.sl,by have:=dh.o;omega⟩)
  obtain ⟨g6,OT⟩:∃ g,w4.heap.size=g:=⟨_,rfl⟩;rw [OT] at H;clear ak hb B5 bM X0 X2 aZ aB YJ dh Bw;go_wp2_with fail
  try rw [aS]
  try rw [OT]
  clear aS OT;obtain ⟨g4,dL⟩:∃ g,w0.heap.size=g:=⟨_,rfl⟩
  try rw [dL] at H ⊢
  clear dL s0 s1 s2;go_loopw [6,8] (fun v i wr=>∃ (j:Nat) (q:Kx.Kernel×List Int) (u0 u1 u2 u3:Value),i=I_ j/\j<=cs.length/\TI ((cs.take j).foldl Kx.uK (k,[])=q)/\TI (lm w wr g4 g6 q.1 u0 u1 u2 u3 v q.2)) (fun _ i _=>cs.length - (intOf i).toNat)
  case atStart=>exact ⟨0,(k,[]),_,_,_,_,rfl,Nat.zero_le _,rfl,H⟩
  case round =>
   clear H;obtain ⟨j,q,u0,u1,u2,u3,rfl,hj,Hq,H⟩:=hrel;have ik:=af (show q.2.length=j by have:=Kx.bi (cs.take j) k [];rw [Hq.o] at this;simp at this;omega);have fO:cs.length<=1099511627776:=HL.o.1;obtain ⟨⟨b0,q0,z0,rfl⟩,⟨b1,q1,z1,rfl⟩,⟨b2,q2,z2,rfl⟩,⟨b3,q3,z3,rfl⟩⟩:=H.o.sl
   by_cases aI:j<cs.length
   ·obtain ⟨bl,ol,xl,el,dF,hq⟩:=RS.at (RS.below HL.o H.o.b) aI;obtain ⟨rfl,_,rfl⟩:=Za el;clear el;have kQ:(j:Int)<(cs.length:Int):=by omega
    have bH:=af (df.o cs[j] (List.getElem_mem aI));have HT:=af (show (cs.take (j+1)).foldl Kx.uK (k,[])=Kx.uK q cs[j] by rw [Kx.bn cs k aI,Hq.o]);generalize cs[j]=c at hq HT bH;obtain ⟨bQ,JF,ca,cb,cc,bg⟩:=c;have q0:wr.cell? ⟨bl,ol+j*6,none⟩=some (I_ bQ):=hq 0 _ rfl;have q1:wr.cell? ⟨bl,ol+j*6+1,none⟩=some (I_ JF):=hq 1 _ rfl;have q2:wr.cell? ⟨bl,ol+j*6+2,none⟩=some (I_ ca):=hq 2 _ rfl;have q3:wr.cell? ⟨bl,ol+j*6+3,none⟩=some (I_ cb):=hq 3 _ rfl;have q4:wr.cell? ⟨bl,ol+j*6+4,none⟩=some (I_ cc):=hq 4 _ rfl;have q5:wr.cell? ⟨bl,ol+j*6+5,none⟩=some (.string bg):=hq 5 _ rfl;clear hq;have ND:=af dF;have Q0:=af q0;have Q1:=af q1;have Q2:=af q2;have Q3:=af q3;have dI:=af q4;have dJ:=af q5;clear dF q0 q2 q3 q4 q5;go_wp2_with fail;refine (qZ _ _).mono ?_;rintro en w9 ⟨rfl,rfl⟩;clear q1
    cases aY:Kx.bK JF 0 2 with
    | false =>
     have bC:=af (show (cs.take (j+1)).foldl Kx.uK (k,[])=(q.1,q.2 ++ [5]) by rw [HT.o];unfold Kx.uK;simp only [aY];rfl);clear aY HT Q0 Q1 Q2 Q3 dI dJ;have uf:=af (show w.heap.size<=wr.heap.size from H.o.b.size);have HA:=af (H.o.below ((Below.refl wr.heap.size wr).alloc aW (.cells #[I_ 5] 3)));have bY:=af (show q.2.length+1<=1099511627776 by have:=ik.o;omega);go_wp2_with (at_builtin;refine aV wK rfl _ _ rfl w.heap.size _ q.2 rfl (H.o.o.os.alloc _) _ [(5:Int)] rfl (RS.one (f:=iR) (5:Int) #[I_ 5] rfl _ _) bY.o (by simp;exact Nat.le_succ_of_le uf.o) ?_;intro v7 w8 xE J5 aU;have H8:=af (HA.o.app xE J5 aU);clear xE J5 aU);go_roundw
     case rel=>exact ⟨j+1,_,_,_,_,_,by go_num,by omega,bC,H8⟩
     case measure=>simp [intOf];omega
    | true =>
     obtain ⟨dN,fA⟩:=Kx.ay.1 aY;obtain ⟨e,rfl⟩:=Int.eq_ofNat_of_zero_le dN;obtain ⟨r,hr⟩:=XP (Kx.cO q.1 ⟨bQ,(e:Int),ca,cb,cc,bg⟩);have bC:=af (show (cs.take (j+1)).foldl Kx.uK (k,[])=(r.1,q.2 ++ [r.2.2]) by rw [HT.o];unfold Kx.uK;simp only [aY,hr];rfl);have Ky:=af (show az r.1=true from hr ▸ Kx.nN.2 ((Kx.nN.1 H.o.ok).cO _ aY));have HC:=af (fun W (hb:Below wr.heap.size wr W)=>hr ▸ Ap q.1 ⟨bQ,(e:Int),ca,cb,cc,bg⟩ e _ _ _ _ W (H.o.below hb).rk H.o.ok (jX H.o.ok) rfl (by omega) bH.o.1)
     unfold dW at HC;clear aY hr dN fA HT;go_wp2_with fail
     have aC:=af (show ∀ W,Below wr.heap.size wr W->(W.cell? ⟨g6,0,none⟩=some (.slice b0 q0 z0)/\W.cell? ⟨g6,1,none⟩=some (.slice b1 q1 z1)/\W.cell? ⟨g6,2,none⟩=some (.slice b2 q2 z2)/\W.cell? ⟨g6,3,none⟩=some (.slice b3 q3 z3)/\W.cell? ⟨bl,ol+j*6,none⟩=some (I_ bQ)/\W.cell? ⟨bl,ol+j*6+1,none⟩=some (I_ (e:Int))/\W.cell? ⟨bl,ol+j*6+2,none⟩=some (I_ ca)/\W.cell? ⟨bl,ol+j*6+3,none⟩=some (I_ cb)/\W.cell? ⟨bl,ol+j*6+4,none⟩=some (I_ cc)/\W.cell? ⟨bl,ol+j*6+5,none⟩=some (.string bg)) from fun W h=>⟨(H.o.x6.below h).cell 0,(H.o.x6.below h).cell 1,(H.o.x6.below h).cell 2,(H.o.x6.below h).cell 3,(h.cell (p:=⟨bl,ol+j*6,none⟩) ND.o).trans Q0.o,(h.cell (p:=⟨bl,ol+j*6+1,none⟩) ND.o).trans Q1.o,(h.cell (p:=⟨bl,ol+j*6+2,none⟩) ND.o).trans Q2.o,(h.cell (p:=⟨bl,ol+j*6+3,none⟩) ND.o).trans Q3.o,(h.cell (p:=⟨bl,ol+j*6+4,none⟩) ND.o).trans dI.o,(h.cell (p:=⟨bl,ol+j*6+5,none⟩) ND.o).trans dJ.o⟩)
     have ax:=Below.refl wr.heap.size wr;have eH:=aC.o _ (Below.bz ax);refine afi aC fun ah=>?_
     clear eH;obtain ⟨d,hd⟩:=XP wr.drew;rw [hd] at ah ⊢;replace ax:Below wr.heap.size wr d:=hd ▸ Below.bz ax;clear hd;refine afV 0 ?_;refine ac' 4 ?_;refine ae' 5 10 (fun K hK=>?_) (fun K hK=>?_)
     case' refine_1 =>
      (go_simp;go_at_call 87;refine (HC.o _ ax).mono ?_;rintro en V1 ⟨_,_,_,_,rfl,ak,hb⟩;obtain ⟨⟨d0,WR,WS,rfl⟩,⟨d1,WT,WU,rfl⟩,⟨d2,WV,WW,rfl⟩,⟨d3,WX,WY,rfl⟩⟩:=ak.sl;have au:=ax.trans (hb.mono ax.size);have aG:=af (ak.mono (show wr.heap.size<=_ from ax.size));clear ak hb;have dQ:=aC.o V1 au;go_wp2_with fail)
      refine afS hK fun ah=>?_
      clear hK K;refine afV 6 ?_;refine ahk 10 fun K hK=>?_
      (go_simp;obtain ⟨aH,hU⟩:∃ V,V1.alloc (.cells #[.slice none 0 0,.slice none 0 0,.slice none 0 0,.slice none 0 0] 28)=V:=⟨_,rfl⟩;have aA:=af (show BX aH V1.heap.size 28 [.slice none 0 0,.slice none 0 0,.slice none 0 0,.slice none 0 0] from hU ▸ BX.new V1 _ _);obtain ⟨g7,Fh⟩:∃ g,V1.heap.size=g:=⟨_,rfl⟩;have dB:wr.heap.size<=g7:=Fh ▸ au.size;have aX:=(show Below V1.heap.size V1 aH from hU ▸ dm);replace aG:=af (aG.o.below aX);have bG:=au.trans (aX.mono au.size);have dR:=aC.o aH bG;rw [Fh] at aA ⊢;try rw [hU];clear hU Fh aX)
      refine afS hK fun ah=>?_
      clear hK K
     case' refine_2 =>
      (go_simp;obtain ⟨U,hU⟩:∃ V,d.alloc (.cells #[.slice none 0 0,.slice none 0 0,.slice none 0 0,.slice none 0 0] 28)=V:=⟨_,rfl⟩;have aA:=af (show BX U d.heap.size 28 [.slice none 0 0,.slice none 0 0,.slice none 0 0,.slice none 0 0] from hU ▸ BX.new d _ _);obtain ⟨g7,Fh⟩:∃ g,d.heap.size=g:=⟨_,rfl⟩;have dB:wr.heap.size<=g7:=Fh ▸ ax.size;have aX:=(show Below d.heap.size d U from hU ▸ dm);have au:=ax.trans (aX.mono ax.size);have dQ:=aC.o U au;rw [Fh] at aA ⊢;try rw [hU];clear hU Fh aX)
      refine afS hK fun ah=>?_
      clear hK K;refine ahk 5 fun K hK=>?_
      (go_simp;go_at_call 87;refine (HC.o _ au).mono ?_;rintro en aH ⟨_,_,_,_,rfl,ak,hb⟩;obtain ⟨⟨d0,WR,WS,rfl⟩,⟨d1,WT,WU,rfl⟩,⟨d2,WV,WW,rfl⟩,⟨d3,WX,WY,rfl⟩⟩:=ak.sl;have bG:=au.trans (hb.mono au.size);have aG:=af (ak.mono (show wr.heap.size<=_ from au.size));replace aA:=af (aA.o.below hb);clear ak hb;have dR:=aC.o aH bG;go_wp2_with fail)
      refine afS hK fun ah=>?_
      clear hK K;refine afV 6 ?_
     all_goals
      have p0:=aA.o.c4;have y0:=aA.o.f4;refine ahk 11 fun K hK=>?_
      (go_simp;obtain ⟨V,hV⟩:=XP (sets aH g7 0 [.slice d0 WR WS,.slice d1 WT WU,.slice d2 WV WW,.slice d3 WX WY]);have bW:Below wr.heap.size wr V:=hV ▸ dP dB _ 0 bG;have dS:=af (show BX V g7 28 [.slice d0 WR WS,.slice d1 WT WU,.slice d2 WV WW,.slice d3 WX WY] from hV ▸ aA.o.sets _ rfl);replace aG:=af (show KO V wr.heap.size (.slice d0 WR WS) (.slice d1 WT WU) (.slice d2 WV WW) (.slice d3 WX WY) r.1 from hV ▸ KO.sets aJ _ 0 aA.o aG.o);rw [afA aH,hV];have eY:=aC.o V bW)
      refine afS hK fun ah=>?_
      clear hK K;refine afU 12 ?_;refine wpAnyH_done (by kernel_rfl) ?_ _;have H7:=af (H.o.call bW aG.o Ky.o);have x0:=dS.o.c4;obtain ⟨r0,r1,r2,r3⟩:=(H.o.x6.below bW).c4;obtain ⟨jh,ji,jk,jl⟩:=(H.o.x6.below bW).f4;obtain ⟨V7,bD⟩:∃ U,sets V g6 0 [.slice d0 WR WS,.slice d1 WT WU,.slice d2 WV WW,.slice d3 WX WY]=U:=⟨_,rfl⟩;rw [bD] at H7;clear hV p0 y0 ah dB bG au dQ dR eY aG aA ax bW aC HC dS;go_upto_region 13 with fail;rw [afA V,bD];clear r0 r1 r2 r3 jh ji jk jl x0 bD H Q0 Q1 Q2 Q3 dI dJ;have uf:=af (show w.heap.size<=V7.heap.size from H7.o.b.size)
      have HA:=af (H7.o.below ((Below.refl V7.heap.size V7).alloc aW (.cells #[I_ r.2.2] 3)));have bY:=af (show q.2.length+1<=1099511627776 by have:=ik.o;omega);go_wp2_with (at_builtin;refine aV wK rfl _ _ rfl w.heap.size _ q.2 rfl (H7.o.o.os.alloc _) _ [(r.2.2:Int)] rfl (RS.one (f:=iR) (r.2.2:Int) #[I_ r.2.2] rfl _ _) bY.o (by simp;exact Nat.le_succ_of_le uf.o) ?_;intro v7 w8 xE J5 aU;have H8:=af (HA.o.app xE J5 aU);clear xE J5 aU);go_roundw
      case rel=>exact ⟨j+1,_,_,_,_,_,by go_num,by omega,bC,H8⟩
      case measure=>simp [intOf];omega
   obtain rfl:j=cs.length:=by omega
   rw [List.take_length] at Hq;have fU:=af H.o.f;have p0:=H.o.x6.c4;obtain ⟨r0,r1,r2,r3⟩:=H.o.x4.c4;obtain ⟨jh,ji,jk,jl⟩:=H.o.x4.f4;go_wp2_with fail;obtain ⟨F,hF⟩:=XP (sets wr g4 0 [.slice b0 q0 z0,.slice b1 q1 z1,.slice b2 q2 z2,.slice b3 q3 z3]);rw [afA wr,hF];have BF:Below w.heap.size w F:=hF ▸ dP H.o.h.1 _ 0 H.o.b;have di:BX F g4 28 [.slice b0 q0 z0,.slice b1 q1 z1,.slice b2 q2 z2,.slice b3 q3 z3]:=hF ▸ H.o.x4.sets _ rfl;have dX:RK F (.slice b0 q0 z0) (.slice b1 q1 z1) (.slice b2 q2 z2) (.slice b3 q3 z3) q.1:=by
    obtain ⟨base,hi,h0,h1,h2,h3,hk⟩:=fU.o;exact hk F (by rw [<-hF,kD];exact Nat.le_refl _) (fun j a _=>hF ▸ gp g4 _ (by omega) _ _)
   have CF:OI F w.heap.size u6 q.2:=(hF ▸ OS.sets (by decide) _ 0 H.o.x4 H.o.o.os:OS iR 1 3 F w.heap.size u6 q.2).oi;obtain ⟨e0,e1,e2,e3⟩:=di.c4;refine af7 (by simp [results,results24,go_sem,e0,e1,e2,e3]<;>rfl) ?_;rw [HF.o,Hq.o];exact ⟨_,_,_,_,_,rfl,dX,CF.ri,BF⟩
theorem cu (k:Kx.Kernel) (cs:List Kx.Call) (vm vi ve vc vl:Value) (w:World) (h:RK w vm vi ve vc k) (hs:iQ k) (hl:Zj w vl cs) (cZ:∀ c ∈ cs,c.name.size<=9223372036854775807/\c.c<=9223372036854775807) :
  Calls prog 23 #[.agg #[vm,vi,ve,vc],vl] w (wz w (QI k cs)):=by
 obtain ⟨al,cl,rfl,_,_⟩:=RS.val hl;obtain ⟨⟨am,nm,cm,rfl⟩,⟨ai,ni,ci,rfl⟩,⟨ae,ne,ce,rfl⟩,⟨ac,nc,cq,rfl⟩⟩:=h.slc;obtain ⟨w0,bT⟩:=XP (w.alloc (.cells #[.slice am nm cm,.slice ai ni ci,.slice ae ne ce,.slice ac nc cq] 28));obtain ⟨w1,aQ⟩:=XP (w0.alloc (.cells #[.slice none 0 0,.slice none 0 0,.slice none 0 0,.slice none 0 0] 28));have B0:Below w.heap.size w w0:=bT ▸ dm;have B1:Below w0.heap.size w0 w1:=aQ ▸ dm;have s0:w.heap.size<w0.heap.size:=by rw [<-bT];simp
 have s1:w0.heap.size<w1.heap.size:=by rw [<-aQ];simp
 have Bw:=af (show Below w.heap.size w w1 from B0.trans (B1.mono B0.size));have X0:=af (show BX w1 w.heap.size 28 [.slice am nm cm,.slice ai ni ci,.slice ae ne ce,.slice ac nc cq] from (bT ▸ BX.new w _ _:BX w0 _ _ _).below B1);have X2:=af (show BX w1 w0.heap.size 28 [.slice none 0 0,.slice none 0 0,.slice none 0 0,.slice none 0 0] from (aQ ▸ BX.new w0 _ _:BX w1 _ _ _));have aZ:=af (show OI w1 w.heap.size (.slice none 0 0) [] from OI.nil _ _);have HR:=af (show RK w _ _ _ _ k from h);have HL:=af hl;have HS:=af hs;have df:=af cZ;have HV:=af (mX k _ _ _ _ w1 (HR.o.below Bw.o) hs);have HK:=af (show QI k cs=if !az k then (Kx.Kernel.zero,[]) else cs.foldl Kx.uK (k,[]) from rfl);clear h hs hl cZ B0 B1;go_enter func23,ntmps23;have p0:=X0.o.c4;go_wp2_with fail;clear bT aQ
 refine HV.o.mono ?_;rintro en w3 ⟨rfl,hb⟩;clear HV p0;replace X0:=af (X0.o.below hb);replace X2:=af (X2.o.below hb);replace aZ:=af (aZ.o.below hb);have dh:=af (show w1.heap.size<=w3.heap.size from hb.size);replace Bw:=af (Bw.o.trans (hb.mono Bw.o.size));have p0:=X0.o.c4;clear hb
 cases aB:az k with
 | false =>
  have HF:=af (show QI k cs=(Kx.Kernel.zero,[]) by rw [HK.o,aB];rfl);clear aB;obtain ⟨r0,r1,r2,r3⟩:=X2.o.c4;obtain ⟨jh,ji,jk,jl⟩:=X2.o.f4;go_wp2_with fail;obtain ⟨F,hF⟩:=XP (sets w3 w0.heap.size 0 [.slice none 0 0,.slice none 0 0,.slice none 0 0,.slice none 0 0]);rw [afA w3,hF];have BF:Below w.heap.size w F:=hF ▸ dP (by omega) _ 0 Bw.o;have di:BX F w0.heap.size 28 [.slice none 0 0,.slice none 0 0,.slice none 0 0,.slice none 0 0]:=hF ▸ X2.o.sets _ rfl;obtain ⟨e0,e1,e2,e3⟩:=di.c4
  refine af7 (by simp [results,results23,go_sem,e0,e1,e2,e3]<;>rfl) ?_;rw [HF.o];exact ⟨_,_,_,_,_,_,rfl,Nat.le_refl _,KO.zero _ _,OI.nil _ _,fun b hb=>by simp [Value.ownBlock] at hb,BF⟩
 | true =>
  have HF:=af (show QI k cs=cs.foldl Kx.uK (k,[]) by rw [HK.o,aB];rfl);have dH:=af (ad2 k _ _ _ _ w3 (HR.o.below Bw.o));go_wp2_with fail;refine dH.o.mono ?_;rintro en w4 ⟨um,ui,ue,uc,rfl,ak,hb⟩;clear dH p0 HK;obtain ⟨⟨a0,n0,m0,rfl⟩,⟨a1,n1,m1,rfl⟩,⟨a2,n2,m2,rfl⟩,⟨a3,n3,m3,rfl⟩⟩:=ak.sl;obtain ⟨w5,aS⟩:∃ V,w4.alloc (.cells #[.slice a0 n0 m0,.slice a1 n1 m1,.slice a2 n2 m2,.slice a3 n3 m3] 28)=V:=⟨_,rfl⟩;have B5:Below w4.heap.size w4 w5:=aS ▸ dm;have bM:=hb.trans (B5.mono hb.size);have YJ:=hb.size;have H:=af (show lm w w5 w0.heap.size w4.heap.size k (.slice a0 n0 m0) (.slice a1 n1 m1) (.slice a2 n2 m2) (.slice a3 n3 m3) (.slice none 0 0) [] from
   ⟨Bw.o.trans (bM.mono Bw.o.size),X2.o.below bM,aS ▸ BX.new w4 _ _,
    ⟨w3.heap.size,w4.heap.size,by have:=dh.o;omega,.inr aW,B5.size,fun b hb'=>.inl (aZ.o.lt b hb').2,ak.dV.to B5.size (fun j _ h2=>B5.block j h2)⟩,aZ.o.below bM,aB,ak.sl,by have:=dh.o;omega⟩)
  obtain ⟨g6,OT⟩:∃ g,w4.heap.size=g:=⟨_,rfl⟩;rw [OT] at H;clear ak hb B5 bM X0 X2 aZ aB YJ dh Bw;go_wp2_with fail
  try rw [aS]
  try rw [OT]
  clear aS OT;obtain ⟨g4,dL⟩:∃ g,w0.heap.size=g:=⟨_,rfl⟩
  try rw [dL] at H ⊢
  clear dL s0 s1;go_loopw [7,19] (fun v i wr=>∃ (j:Nat) (q:Kx.Kernel×List Int) (u0 u1 u2 u3:Value),i=I_ j/\j<=cs.length/\TI ((cs.take j).foldl Kx.uK (k,[])=q)/\TI (lm w wr g4 g6 q.1 u0 u1 u2 u3 v q.2)) (fun _ i _=>cs.length - (intOf i).toNat)
  case atStart=>exact ⟨0,(k,[]),_,_,_,_,rfl,Nat.zero_le _,rfl,H⟩
  case round =>
   clear H;obtain ⟨j,q,u0,u1,u2,u3,rfl,hj,Hq,H⟩:=hrel;have ik:=af (show q.2.length=j by have:=Kx.bi (cs.take j) k [];rw [Hq.o] at this;simp at this;omega);have fO:cs.length<=1099511627776:=HL.o.1;obtain ⟨⟨b0,q0,z0,rfl⟩,⟨b1,q1,z1,rfl⟩,⟨b2,q2,z2,rfl⟩,⟨b3,q3,z3,rfl⟩⟩:=H.o.sl
   by_cases aI:j<cs.length
   ·obtain ⟨bl,ol,xl,el,dF,hq⟩:=RS.at (RS.below HL.o H.o.b) aI;obtain ⟨rfl,_,rfl⟩:=Za el;clear el;have kQ:(j:Int)<(cs.length:Int):=by omega
    have bH:=af (df.o cs[j] (List.getElem_mem aI));have HT:=af (show (cs.take (j+1)).foldl Kx.uK (k,[])=Kx.uK q cs[j] by rw [Kx.bn cs k aI,Hq.o]);generalize cs[j]=c at hq HT bH;obtain ⟨bQ,JF,ca,cb,cc,bg⟩:=c;have q0:wr.cell? ⟨bl,ol+j*6,none⟩=some (I_ bQ):=hq 0 _ rfl;have q1:wr.cell? ⟨bl,ol+j*6+1,none⟩=some (I_ JF):=hq 1 _ rfl;have q2:wr.cell? ⟨bl,ol+j*6+2,none⟩=some (I_ ca):=hq 2 _ rfl;have q3:wr.cell? ⟨bl,ol+j*6+3,none⟩=some (I_ cb):=hq 3 _ rfl;have q4:wr.cell? ⟨bl,ol+j*6+4,none⟩=some (I_ cc):=hq 4 _ rfl;have q5:wr.cell? ⟨bl,ol+j*6+5,none⟩=some (.string bg):=hq 5 _ rfl;clear hq;obtain ⟨w6,bU⟩:∃ V,wr.alloc (.cells #[I_ bQ,I_ JF,I_ ca,I_ cb,I_ cc,.string bg] 59)=V:=⟨_,rfl⟩;have B6:Below wr.heap.size wr w6:=bU ▸ dm
    have X9:=af (show BX w6 wr.heap.size 59 [I_ bQ,I_ JF,I_ ca,I_ cb,I_ cc,.string bg] from bU ▸ BX.new wr _ _);have H6:=af (H.o.below B6);have c0:=X9.o.c6;clear B6;go_wp2_with fail
    try rw [bU]
    refine (BR _ _).mono ?_;rintro en w9 ⟨rfl,rfl⟩;clear bU H q0 q1 q2 q3 q4 q5
    cases aY:Kx.bK JF 0 2 with
    | false =>
     have bC:=af (show (cs.take (j+1)).foldl Kx.uK (k,[])=(q.1,q.2 ++ [5]) by rw [HT.o];unfold Kx.uK;simp only [aY];rfl);clear aY HT c0;have uf:=af (show w.heap.size<=w6.heap.size from H6.o.b.size);have HA:=af (H6.o.below ((Below.refl w6.heap.size w6).alloc aW (.cells #[I_ 5] 3)));have bY:=af (show q.2.length+1<=1099511627776 by have:=ik.o;omega);go_wp2_with (at_builtin;refine aV wK rfl _ _ rfl w.heap.size _ q.2 rfl (H6.o.o.os.alloc _) _ [(5:Int)] rfl (RS.one (f:=iR) (5:Int) #[I_ 5] rfl _ _) bY.o (by simp;exact Nat.le_succ_of_le uf.o) ?_;intro v7 w8 xE J5 aU;have H8:=af (HA.o.app xE J5 aU);clear xE J5 aU);go_roundw
     case rel=>exact ⟨j+1,_,_,_,_,_,by go_num,by omega,bC,H8⟩
     case measure=>simp [intOf];omega
    | true =>
     obtain ⟨dN,fA⟩:=Kx.ay.1 aY;obtain ⟨e,rfl⟩:=Int.eq_ofNat_of_zero_le dN;obtain ⟨r,hr⟩:=XP (Kx.cO q.1 ⟨bQ,(e:Int),ca,cb,cc,bg⟩);have bC:=af (show (cs.take (j+1)).foldl Kx.uK (k,[])=(r.1,q.2 ++ [r.2.2]) by rw [HT.o];unfold Kx.uK;simp only [aY,hr];rfl);have Ky:=af (show az r.1=true from hr ▸ Kx.nN.2 ((Kx.nN.1 H6.o.ok).cO _ aY));have HC:=af (hr ▸ ado q.1 ⟨bQ,(e:Int),ca,cb,cc,bg⟩ e _ _ _ _ w6 H6.o.rk H6.o.ok (jX H6.o.ok) rfl (by omega) bH.o.1 bH.o.2);unfold dW at HC;clear aY hr dN fA HT;have p0:=H6.o.x6.c4;go_wp2_with fail;refine HC.o.mono ?_;rintro en w7 ⟨_,_,_,_,rfl,ak,hb⟩;clear HC p0 c0;obtain ⟨⟨d0,WR,WS,rfl⟩,⟨d1,WT,WU,rfl⟩,⟨d2,WV,WW,rfl⟩,⟨d3,WX,WY,rfl⟩⟩:=ak.sl;have H7:=af (H6.o.call hb ak Ky.o)
     obtain ⟨r0,r1,r2,r3⟩:=(H6.o.x6.below hb).c4;obtain ⟨jh,ji,jk,jl⟩:=(H6.o.x6.below hb).f4;obtain ⟨V7,bD⟩:=XP (sets w7 g6 0 [.slice d0 WR WS,.slice d1 WT WU,.slice d2 WV WW,.slice d3 WX WY]);rw [bD] at H7;clear ak hb H6 X9;go_upto_region 11 with fail;rw [afA w7,bD];clear r0 r1 r2 r3 jh ji jk jl bD;have uf:=af (show w.heap.size<=V7.heap.size from H7.o.b.size);have HA:=af (H7.o.below ((Below.refl V7.heap.size V7).alloc aW (.cells #[I_ r.2.2] 3)));have bY:=af (show q.2.length+1<=1099511627776 by have:=ik.o;omega)
     go_wp2_with (at_builtin;refine aV wK rfl _ _ rfl w.heap.size _ q.2 rfl (H7.o.o.os.alloc _) _ [(r.2.2:Int)] rfl (RS.one (f:=iR) (r.2.2:Int) #[I_ r.2.2] rfl _ _) bY.o (by simp;exact Nat.le_succ_of_le uf.o) ?_;intro v7 w8 xE J5 aU;have H8:=af (HA.o.app xE J5 aU);clear xE J5 aU);go_roundw
     case rel=>exact ⟨j+1,_,_,_,_,_,by go_num,by omega,bC,H8⟩
     case measure=>simp [intOf];omega
   obtain rfl:j=cs.length:=by omega
   rw [List.take_length] at Hq;have HO:=af (ad2 q.1 _ _ _ _ wr H.o.rk);have p0:=H.o.x6.c4;go_wp2_with fail;refine HO.o.mono ?_;rintro en w7 ⟨_,_,_,_,rfl,ak,hb⟩;obtain ⟨⟨d0,WR,WS,rfl⟩,⟨d1,WT,WU,rfl⟩,⟨d2,WV,WW,rfl⟩,⟨d3,WX,WY,rfl⟩⟩:=ak.sl;have H7:=af (H.o.below hb);have aG:=af ak;have uf:=af H.o.b.size;have Js:=af (fun b hb=>(H.o.o.lt b hb).2)
   clear ak hb HO p0 H;obtain ⟨r0,r1,r2,r3⟩:=H7.o.x4.c4;obtain ⟨jh,ji,jk,jl⟩:=H7.o.x4.f4;go_wp2_with fail;obtain ⟨F,hF⟩:=XP (sets w7 g4 0 [.slice d0 WR WS,.slice d1 WT WU,.slice d2 WV WW,.slice d3 WX WY]);rw [afA w7,hF];have BF:Below w.heap.size w F:=hF ▸ dP H7.o.h.1 _ 0 H7.o.b;have di:BX F g4 28 [.slice d0 WR WS,.slice d1 WT WU,.slice d2 WV WW,.slice d3 WX WY]:=hF ▸ H7.o.x4.sets _ rfl;have dX:KO F wr.heap.size (.slice d0 WR WS) (.slice d1 WT WU) (.slice d2 WV WW) (.slice d3 WX WY) q.1:=hF ▸ KO.sets aJ _ 0 H7.o.x4 aG.o;have CF:OI F w.heap.size u7 q.2:=(hF ▸ OS.sets (by decide) _ 0 H7.o.x4 H7.o.o.os:OS iR 1 3 F w.heap.size u7 q.2).oi
   obtain ⟨e0,e1,e2,e3⟩:=di.c4;refine af7 (by simp [results,results23,go_sem,e0,e1,e2,e3]<;>rfl) ?_;rw [HF.o,Hq.o];exact ⟨_,_,_,_,_,_,rfl,uf.o,dX,CF,Js.o,BF⟩
theorem lg {α:Type} {f:α->List Value} {sz:Nat} (hf:∀ x,(f x).length=sz) (j:Nat) (u:Value) (hj:j<sz):∀ (l:List α) (k:Nat) (x:α) (hk:k<l.length),f x=(f l[k]).set j u->flat f (l.set k x)=(flat f l).set (k*sz+j) u
 | [],_,_,h,_=>by simp at h
 | y :: l,0,x,_,h=>by
  unfold flat;simp only [List.set_cons_zero,List.flatMap_cons,List.getElem_cons_zero] at h ⊢;rw [h,Nat.zero_mul,Nat.zero_add,List.set_append_left _ _ (by rw [hf];exact hj)]
 | y :: l,k+1,x,hk,h=>by
  have:=lg hf j u hj l k x (by simpa using hk) (by simpa using h)
  unfold flat at this ⊢;simp only [List.set_cons_succ,List.flatMap_cons];rw [this,List.set_append_right _ _ (by rw [hf,Nat.succ_mul];omega),hf];congr 2;rw [Nat.succ_mul];omega
theorem OS.dn {α:Type} {f:α->List Value} {sz:Nat} [E:IV f sz] {e:TypeId} {w:World} {base g n cap:Nat} {l:List α} (h:OS f sz e w base (.slice (some ⟨g,0,none⟩) n cap) l) (hn:l.length=n) (k:Nat) (hk:k<l.length) (j:Nat) (hj:j<sz) (u:Value) (x:α) (hx:f x=(f l[k]).set j u) :
  OS f sz e (w.setCell ⟨g,k*sz+j,none⟩ u) base (.slice (some ⟨g,0,none⟩) n cap) (l.set k x):=by
 subst hn;have h2:=(h.1.stored (k*sz+j) u).1;refine ⟨?_,by simpa using h.2⟩;rw [lg E.len j u hj l k x hk hx,List.length_set];exact h2
section
variable {w W V:World} {rb q q' g2 g5:Nat} {k:Kx.Kernel} {v0 v1 v2 v3 v v':Value} {l:List Kx.Call}
theorem LD.later {row:Option Nat} (h:LD w W rb q g2 g5 k v0 v1 v2 v3) (hg:W.grownBy V row) (hr:∀ b,row=some b->g5<b):LD w V rb q g2 g5 k v0 v1 v2 v3:=by
 obtain ⟨base,hi,h2,h3,h4,hk⟩:=h.f;have hh:=h.h;exact ⟨h.b.grown hg h.b.size (fun b hb=>by have:=hr b hb;omega),h.r.grown hg (fun b hb=>by have:=hr b hb;omega),(hg.block g2 h.x2.lt (fun e=>by have:=hr _ e.symm;omega)).trans h.x2,(hg.block g5 h.x5.lt (fun e=>by have:=hr _ e.symm;omega)).trans h.x5,
  ⟨base,hi,h2,h3,Nat.le_trans h4 hg.size,hk.to hg.size (fun j a b=>hg.block j (by omega) (fun e=>by have:=hr _ e.symm;omega))⟩,h.s,h.h⟩
structure oq (w W:World) (rb q g2 g5:Nat) (k:Kx.Kernel) (v0 v1 v2 v3 v:Value) (l:List Kx.Call):Prop where
 d:LD w W rb q g2 g5 k v0 v1 v2 v3
 n12:k.ag.length=12
 o:OS Lc 6 59 W (g5+1) v l
 c:∀ c ∈ l,c.name.size<=9223372036854775807/\c.c<=9223372036854775807
 s:∃ g c,v=.slice (some ⟨g,0,none⟩) l.length c
theorem oq.pick (h:oq w W rb q g2 g5 k v0 v1 v2 v3 v l) (hr:RD V rb q') (hg:W.grownBy V (some rb)):oq w V rb q' g2 g5 k v0 v1 v2 v3 v l:=
 ⟨h.d.pick hr hg,h.n12,h.o.kept hg (by
  cases hv:v.ownBlock with
  | none=>exact .inl rfl
  | some b=>refine .inr fun e=>?_;have:=(h.o.lt b hv).1;have:=h.d.h;simp at e;omega),h.c,h.s⟩
theorem oq.below (h:oq w W rb q g2 g5 k v0 v1 v2 v3 v l) (hb:Below W.heap.size W V):oq w V rb q g2 g5 k v0 v1 v2 v3 v l:=
 h.pick (h.d.r.keep hb) (grown_below hb ⟨hb.os,hb.tape,hb.output⟩)
theorem oq.app {c:Kx.Call} (h:oq w W rb q g2 g5 k v0 v1 v2 v3 v l) (ho:OS Lc 6 59 V (g5+1) v' (l ++ [c])) (hg:W.grownBy V v.ownBlock) (hc:c.name.size<=9223372036854775807/\c.c<=9223372036854775807):oq w V rb q g2 g5 k v0 v1 v2 v3 v' (l ++ [c]):=
 ⟨h.d.later hg (fun b hb=>by have:=(h.o.lt b hb).1;omega),h.n12,ho,fun x hx=>by
  rcases List.mem_append.1 hx with h1 | h1
  ·exact h.c x h1
  rw [List.mem_singleton.1 h1];exact hc,by obtain ⟨g,c',e,_⟩:=ho.shape (by simp);exact ⟨g,c',e⟩⟩
end
def o9 (w:World) (en:Ending) (w':World):Prop:=∃ (k:Kx.Kernel) (cs:List Kx.Call) (um ui ue uc:Value) (bl cl:Nat),en=.returned (.tuple #[.agg #[um,ui,ue,uc],.slice (some ⟨bl,0,none⟩) cs.length cl])/\(Sl um/\Sl ui/\Sl ue/\Sl uc)/\iQ k/\Zj w' (.slice (some ⟨bl,0,none⟩) cs.length cl) cs/\(∀ c ∈ cs,c.name.size<=9223372036854775807/\c.c<=9223372036854775807)/\RK w' um ui ue uc k/\Below w.heap.size w w'
theorem xe:aaG 49 59 (.agg #[I_ 0,I_ 0,I_ 0,I_ 0,I_ 0,.string ⟨#[]⟩]) 6:=aaG.mk underlying49 (b:=56) (by kernel_rfl) (by decide) rfl
theorem eu (v:Value) (n:Nat) (w:World) (h:RB w v n):Calls prog 22 #[v] w (o9 w):=by
 obtain ⟨w1,aQ⟩:=XP (w.alloc (.cells #[.slice none 0 0,.slice none 0 0,.slice none 0 0,.slice none 0 0] 28));have B1:=af (show Below w.heap.size w w1 from aQ ▸ dm);have s1:w.heap.size<w1.heap.size:=by rw [<-aQ];simp
 have X2:=af (show BX w1 w.heap.size 28 [.slice none 0 0,.slice none 0 0,.slice none 0 0,.slice none 0 0] from (aQ ▸ BX.new w _ _:BX w1 _ _ _));have HB:=af (h.below B1.o);clear h;go_enter func22,ntmps22;go_wp2_with fail;clear aQ;refine (KR _ _ _ HB.o).mono ?_;rintro en w2 ⟨rb,rfl,hrb,hr,hb⟩;have gU:=hb.size;have B2:=af (B1.o.trans (hb.mono B1.o.size));have HX:=af (X2.o.below hb);have Hr:=af hr;have ed:=hr.lt;clear hr hb X2 HB B1;go_wp2_with fail;refine (JA rb 0 _ Hr.o (by omega)).mono ?_;rintro en w3 ⟨k,_,_,_,_,base,rfl,⟨⟨a0,n0,m0,rfl⟩,⟨a1,n1,m1,rfl⟩,⟨a2,n2,m2,rfl⟩,⟨a3,n3,m3,rfl⟩⟩,hs,fG,dO,ak,q,hq,fQ,hg⟩;have gV:=hg.size;obtain ⟨w4,bJ⟩:∃ V,w3.alloc (.cells #[.slice a0 n0 m0,.slice a1 n1 m1,.slice a2 n2 m2,.slice a3 n3 m3] 28)=V:=⟨_,rfl⟩;have B4:Below w3.heap.size w3 w4:=bJ ▸ dm
 have Y2:BX w3 w.heap.size 28 [.slice none 0 0,.slice none 0 0,.slice none 0 0,.slice none 0 0]:=(hg.block w.heap.size HX.o.lt (by simp;omega)).trans HX.o;have B3:=B2.o.grown hg (show w.heap.size<=w2.heap.size by omega) (fun k hk=>by cases hk;omega);have HD:=af (show LD w w4 rb q w.heap.size w3.heap.size k (.slice a0 n0 m0) (.slice a1 n1 m1) (.slice a2 n2 m2) (.slice a3 n3 m3) from
  ⟨B3.trans (B4.mono B3.size),fQ.keep B4,Y2.below B4,bJ ▸ BX.new w3 _ _,⟨base,w3.heap.size,by omega,Nat.le_refl _,B4.size,ak.r.to B4.size (fun j _ b=>B4.block j b)⟩,hs,by omega⟩)
 have s4:w3.heap.size<w4.heap.size:=by rw [<-bJ];simp
 obtain ⟨w5,aS⟩:∃ V,w4.alloc (.cells #[] 59)=V:=⟨_,rfl⟩;have B5:Below w4.heap.size w4 w5:=aS ▸ dm;have H:=af (show oq w w5 rb q w.heap.size w3.heap.size k (.slice a0 n0 m0) (.slice a1 n1 m1) (.slice a2 n2 m2) (.slice a3 n3 m3) (.slice (some ⟨w4.heap.size,0,none⟩) 0 0) [] from
  ⟨HD.o.below B5,fG,aS ▸ OS.d_ (by omega),fun c hc=>absurd hc (by simp),_,_,rfl⟩)
 obtain ⟨g5,eP⟩:∃ g,w3.heap.size=g:=⟨_,rfl⟩;rw [eP] at H;clear hs ak fQ hg B3 B4 B5 Y2 dO HX B2 Hr HD fG s4;go_wp2_with fail
 try rw [bJ]
 try rw [aS]
 try rw [eP]
 clear bJ eP;refine (aN rb _ 10 _ H.o.d.r (by omega) (by omega) (by omega)).mono ?_;rintro en w6 ⟨x,rfl,x0,x1,hr,hg⟩;obtain ⟨n,rfl⟩:=Int.eq_ofNat_of_zero_le x0;replace H:=af (H.o.pick hr hg);clear hr hg aS;go_wp2_with fail;go_loopw [6,8] (fun v i wr=>∃ (j q:Nat) (l:List Kx.Call),i=I_ j/\j<=n/\q<=1300+30*j/\l.length=j/\TI (oq w wr rb q w.heap.size g5 k (.slice a0 n0 m0) (.slice a1 n1 m1) (.slice a2 n2 m2) (.slice a3 n3 m3) v l)) (fun _ i _=>n - (intOf i).toNat)
 case atStart=>exact ⟨0,_,[],rfl,Nat.zero_le _,by omega,rfl,H⟩
 case round =>
  clear H;obtain ⟨j,q,l,rfl,hj,hq,hl,H⟩:=hrel;have Hl:=af hl;clear hl
  by_cases aI:j<n
  ·have kQ:(j:Int)<(n:Int):=by omega
   have p0:=H.o.d.x5.c4;go_wp2_with fail;clear p0;refine (Ij rb _ k.ag _ _ _ _ _ H.o.d.r (by omega) H.o.d.ag H.o.n12).mono ?_;rintro en w7 ⟨c,e,rfl,-,-,fH,fK,q1,hq1,hr,hg⟩;have Hc:=af (show c.name.size<=9223372036854775807/\c.c<=9223372036854775807 from ⟨Nat.le_trans fH (by decide),fK⟩);obtain ⟨bQ,JF,ca,cb,cc,bg⟩:=c;unfold dW;replace H:=af (H.o.pick hr hg);have HA:=af (H.o.below ((Below.refl w7.heap.size w7).alloc aW (.cells #[I_ bQ,I_ JF,I_ ca,I_ cb,I_ cc,.string bg] 59)));have bY:=af (show l.length+1<=1099511627776 by have:=Hl.o;omega);have uf:=af (show g5+1<=w7.heap.size from H.o.d.x5.lt);clear hr hg fH fK
   go_wp2_with (at_builtin;refine aV xe rfl _ _ rfl (g5+1) _ l rfl (H.o.o.alloc _) _ [⟨bQ,JF,ca,cb,cc,bg⟩] rfl (RS.one (f:=Lc) ⟨bQ,JF,ca,cb,cc,bg⟩ #[I_ bQ,I_ JF,I_ ca,I_ cb,I_ cc,.string bg] rfl _ _) bY.o (by rw [World.size_alloc];exact Nat.le_succ_of_le uf.o) ?_;intro v7 w8 xE J5 aU;have H8:=af (HA.o.app xE J5 Hc.o);clear xE J5 aU);go_roundw
   case rel=>exact ⟨j+1,_,_,by go_num,by omega,by omega,by simp [Hl.o],H8⟩
   case measure=>simp [intOf];omega
  obtain rfl:j=n:=by omega
  have dM:∀ (V:World) (v':Value) (l':List Kx.Call) (q':Nat),oq w V rb q' w.heap.size g5 k (.slice a0 n0 m0) (.slice a1 n1 m1) (.slice a2 n2 m2) (.slice a3 n3 m3) v' l'->o9 w (.returned (.tuple #[.agg #[.slice a0 n0 m0,.slice a1 n1 m1,.slice a2 n2 m2,.slice a3 n3 m3],v'])) (sets V w.heap.size 0 [.slice a0 n0 m0,.slice a1 n1 m1,.slice a2 n2 m2,.slice a3 n3 m3]):=fun V v' l' q' hV=>by
   obtain ⟨f1,f2,f3,_⟩:=hV.d.fin;obtain ⟨bl,cl,hv⟩:=hV.s;have ho:=hV.o;rw [hv] at ho ⊢;exact ⟨k,l',_,_,_,_,bl,cl,rfl,⟨⟨_,_,_,rfl⟩,⟨_,_,_,rfl⟩,⟨_,_,_,rfl⟩,⟨_,_,_,rfl⟩⟩,hV.d.s,(OS.sets (by decide) _ 0 hV.d.x2 ho).rs,hV.c,f3,f1⟩
  have Ws:=af dM;clear dM
  by_cases hn:j=0
  ·subst hn;have c0:=H.o.d.x5.c4;have r0:=H.o.d.x2.c4;have jh:=H.o.d.x2.f4;have aF:=af (Ws.o _ _ _ _ H.o);obtain ⟨e0,e1,e2,e3⟩:=H.o.d.fin.2.1.c4;go_wp2_with fail;obtain ⟨F,hF⟩:=XP (sets wr w.heap.size 0 [.slice a0 n0 m0,.slice a1 n1 m1,.slice a2 n2 m2,.slice a3 n3 m3]);rw [afA wr,hF];rw [hF] at aF e0 e1 e2 e3;refine af7 (by simp [results,results22,go_sem,e0,e1,e2,e3]<;>rfl) ?_;exact aF.o
  have MJ:(0:Int)<(j:Int):=by omega
  go_wp2_with fail;refine (aN rb _ 12 _ H.o.d.r (by omega) (by omega) (by omega)).mono ?_;rintro en w7 ⟨x,rfl,x0,x1,hr,hg⟩;replace H:=af (H.o.pick hr hg);clear hr hg
  by_cases hx:x=0
  ·subst hx;go_wp2_with fail;refine (aN rb _ (j:Int) _ H.o.d.r (by omega) (by omega) (by omega)).mono ?_;rintro en w8 ⟨y,rfl,y0,y1,hr,hg⟩;replace H:=af (H.o.pick hr hg);clear hr hg;obtain ⟨y,rfl⟩:=Int.eq_ofNat_of_zero_le y0;have dG:=af (show y<l.length by have:=Hl.o;omega);have gK:(y:Int)<(j:Int):=by omega
   obtain ⟨g,cp,e,hge,hgl⟩:=H.o.o.shape (by have:=dG.o;omega);rw [Hl.o] at e;subst e;obtain ⟨⟨z,hz⟩,hf⟩:=H.o.o.bP y dG.o 1 (by decide);have aP:=af (show oq w (w8.setCell ⟨g,y*6+1,none⟩ (I_ 3)) rb _ w.heap.size g5 k (.slice a0 n0 m0) (.slice a1 n1 m1) (.slice a2 n2 m2) (.slice a3 n3 m3) (.slice (some ⟨g,0,none⟩) j cp) (l.set y { l[y]'dG.o with env:=3 }) from
    ⟨H.o.d.later (aK w8 g _ _) (fun b hb=>by cases hb;omega),H.o.n12,H.o.o.dn Hl.o y dG.o 1 (by decide) _ _ rfl,fun c hc=>by
     rcases List.mem_or_eq_of_mem_set hc with h1 | rfl
     ·exact H.o.c c h1
     exact H.o.c (l[y]'dG.o) (List.getElem_mem dG.o),g,cp,by rw [List.length_set,Hl.o]⟩)
   obtain ⟨wf,eG⟩:∃ V,w8.setCell ⟨g,y*6+1,none⟩ (I_ 3)=V:=⟨_,rfl⟩;rw [eG] at aP;go_upto_region 11 with fail
   try rw [eG]
   clear hz hf eG;have c0:=aP.o.d.x5.c4;have r0:=aP.o.d.x2.c4;have jh:=aP.o.d.x2.f4;have aF:=af (Ws.o _ _ _ _ aP.o);obtain ⟨e0,e1,e2,e3⟩:=aP.o.d.fin.2.1.c4;go_wp2_with fail;obtain ⟨F,hF⟩:=XP (sets wf w.heap.size 0 [.slice a0 n0 m0,.slice a1 n1 m1,.slice a2 n2 m2,.slice a3 n3 m3]);rw [afA wf,hF];rw [hF] at aF e0 e1 e2 e3;refine af7 (by simp [results,results22,go_sem,e0,e1,e2,e3]<;>rfl) ?_;exact aF.o
  have gX:(x==0)=false:=by simpa using hx
  have c0:=H.o.d.x5.c4;have r0:=H.o.d.x2.c4;have jh:=H.o.d.x2.f4;have aF:=af (Ws.o _ _ _ _ H.o);obtain ⟨e0,e1,e2,e3⟩:=H.o.d.fin.2.1.c4;go_wp2_with fail;obtain ⟨F,hF⟩:=XP (sets w7 w.heap.size 0 [.slice a0 n0 m0,.slice a1 n1 m1,.slice a2 n2 m2,.slice a3 n3 m3]);rw [afA w7,hF];rw [hF] at aF e0 e1 e2 e3;refine af7 (by simp [results,results22,go_sem,e0,e1,e2,e3]<;>rfl) ?_;exact aF.o
end Go.Proofs.YthcmmoibpgcgaaaGreatDoor
namespace Kx
theorem pg {k:Kernel} (hk:Ok k) {c:Call} (he:bK c.env 0 2=true):QH k c=cO k c:=by
 unfold QH;rw [nN.2 hk,he];rfl
theorem gm:∀ (cs:List Call) (k:Kernel) (l:List Int),cs.foldl uK (k,l)=((cs.foldl uK (k,[])).1,l ++ (cs.foldl uK (k,[])).2)
 | [],k,l=>by simp
 | c :: cs,k,l=>by
  rw [List.foldl_cons,List.foldl_cons,aj,aj,gm cs _ (l ++ _),gm cs _ ([] ++ _)];simp
theorem rf (a b:List Call) (k:Kernel):(a ++ b).foldl uK (k,[])=((b.foldl uK ((a.foldl uK (k,[])).1,[])).1,(a.foldl uK (k,[])).2 ++ (b.foldl uK ((a.foldl uK (k,[])).1,[])).2):=by
 rw [List.foldl_append];exact gm b _ _
theorem ou (cs:List Call) (k:Kernel) {i:Nat} (hi:i<cs.length):(cs.foldl uK (k,[])).2[i]?=some (bf ((cs.take i).foldl uK (k,[])).1 cs[i]).2:=by
 have h1:cs=cs.take (i+1) ++ cs.drop (i+1):=(List.take_append_drop _ _).symm;have hl:((cs.take i).foldl uK (k,[])).2.length=i:=by have:=bi (cs.take i) k [];simp at this;omega
 have h2:((cs.take (i+1)).foldl uK (k,[])).2=((cs.take i).foldl uK (k,[])).2 ++ [(bf ((cs.take i).foldl uK (k,[])).1 cs[i]).2]:=by rw [bn cs k hi,aj]
 conv=>lhs;rw [h1]
 rw [rf,h2];rw [List.append_assoc,List.getElem?_append_right (by omega),hl];simp
theorem rq (k:Kernel) (c:Call):(qm k c).2.2≠5:=by
 have hf:∀ x,aO k c x≠5:=fun x=>by
  unfold aO
  repeat' (first | (simp;done) | split)
 unfold qm
 repeat' split
 ·unfold take;repeat' (first | (simp;done) | split)
 ·unfold give;repeat' (first | exact hf _ | (simp;done) | split)
 ·unfold oP;repeat' (first | exact hf _ | (simp;done) | split)
 ·unfold lu;repeat' (first | (simp;done) | split)
 ·unfold lQ;repeat' (first | exact hf _ | (simp;done) | split)
 ·unfold mM;repeat' (first | (simp;done) | split)
 ·unfold f_;repeat' (first | (simp;done) | split)
 ·unfold access;repeat' (first | (simp;done) | split)
 simp
theorem mg {k:Kernel} (hk:Ok k) (c:Call):(QH k c).2.2=(bf k c).2/\((QH k c).2.2≠5->(QH k c).1=(bf k c).1)/\((QH k c).2.2=5->(bf k c).1=k):=by
 unfold bf
 cases he:bK c.env 0 2 with
 | false =>
  have:QH k c=(Kernel.zero,0,5):=by unfold QH;rw [he];simp
  rw [this];simp
 | true =>
  rw [pg hk he];have h5:(cO k c).2.2≠5:=by
   have:=rq k c
   unfold cO;split <;> exact this
  simp [h5]
theorem sH {k:Kernel} (hk:Ok k) (c:Call):Ok (bf k c).1:=by
 unfold bf;split
 ·rename_i h;exact hk.cO c h
 exact hk
end Kx
namespace Go.Proofs.YthcmmoibpgcgaaaGreatDoor
open Go.RowKit Kx

structure x8 (w W:World) (gk go gw:Nat) (k:Kx.Kernel) (r:Kx.Kernel×List Int) (cs:List Kx.Call) (vl vo vt a0 a1 a2 a3 b0 b1 b2 b3 d0 d1 d2 d3:Value):Prop where
 b:Below w.heap.size w W
 dY:BX W gk 28 [a0,a1,a2,a3]
 rk:RK W a0 a1 a2 a3 k
 rl:Zj W vl cs
 xo:BX W go 28 [b0,b1,b2,b3]
 ro:RK W b0 b1 b2 b3 r.1
 co:RI W vo r.2
 xw:BX W gw 28 [d0,d1,d2,d3]
 rw:RK W d0 d1 d2 d3 r.1
 cw:RI W vt r.2
theorem x8.go {w W V:World} {gk go gw:Nat} {k:Kx.Kernel} {r:Kx.Kernel×List Int} {cs:List Kx.Call} {vl vo vt a0 a1 a2 a3 b0 b1 b2 b3 d0 d1 d2 d3:Value} (h:x8 w W gk go gw k r cs vl vo vt a0 a1 a2 a3 b0 b1 b2 b3 d0 d1 d2 d3) (hb:Below W.heap.size W V):x8 w V gk go gw k r cs vl vo vt a0 a1 a2 a3 b0 b1 b2 b3 d0 d1 d2 d3:=
 ⟨h.b.trans (hb.mono h.b.size),h.dY.below hb,h.rk.below hb,RS.below h.rl hb,h.xo.below hb,h.ro.below hb,h.co.below hb,h.xw.below hb,h.rw.below hb,h.cw.below hb⟩
structure ul (w W:World) (g:Nat) (k:Kx.Kernel) (u0 u1 u2 u3:Value):Prop where
 b:Below w.heap.size w W
 x:BX W g 28 [u0,u1,u2,u3]
 f:∀ V,W.grownBy V (some g)->RK V u0 u1 u2 u3 k
 ok:az k=true
 sl:Sl u0/\Sl u1/\Sl u2/\Sl u3
 h:w.heap.size<=g
section
variable {w W V:World} {g:Nat} {k k':Kx.Kernel} {u0 u1 u2 u3 z0 z1 z2 z3:Value}
theorem ul.below (h:ul w W g k u0 u1 u2 u3) (hb:Below W.heap.size W V):ul w V g k u0 u1 u2 u3:=
 ⟨h.b.trans (hb.mono h.b.size),h.x.below hb,fun U hu=>h.f U (grownBy_trans (IG hb _) hu),h.ok,h.sl,h.h⟩
theorem ul.rk (h:ul w W g k u0 u1 u2 u3):RK W u0 u1 u2 u3 k:=h.f W ⟨rfl,rfl,rfl,Nat.le_refl _,fun _ _ _=>rfl⟩
theorem ul.call (h:ul w W g k u0 u1 u2 u3) (hb:Below W.heap.size W V) (ak:KO V W.heap.size z0 z1 z2 z3 k') (aB:az k'=true):ul w (sets V g 0 [z0,z1,z2,z3]) g k' z0 z1 z2 z3:=by
 have h':=h.below hb;have hl:=h.x.lt;exact ⟨dP h.h _ 0 h'.b,h'.x.sets _ rfl,fun U hu=>(ak.up ⟨by have:=hu.size;rwa [kD] at this,fun j h1 h2=>(hu.block j (by rw [kD];exact h2) (by simp;omega)).trans (gp g _ (by omega) _ _)⟩).rk,aB,ak.sl,h.h⟩
end
theorem FnKernelPlay_c (a:Option Addr) (len0 cap0:Nat) (zr:List Int) (w:World) (h0:abT .u8 w a len0 cap0 zr) :
  Calls prog 6 #[.slice a len0 cap0] w (aez w):=by
 by_cases hl0:len0<=1048576
 ·have fP:¬ (1048576:Int)<(len0:Int):=by omega
  have Hr:=af (abT.rb h0);clear h0;go_enter func6,ntmps6;go_wp2_with fail;clear fP;refine (eu _ _ _ Hr.o).mono ?_;rintro en w1 ⟨k,cs,_,_,_,_,bl,cl,rfl,⟨⟨a0,n0,m0,rfl⟩,⟨a1,n1,m1,rfl⟩,⟨a2,n2,m2,rfl⟩,⟨a3,n3,m3,rfl⟩⟩,hs,ed,cZ,hk,hb⟩;obtain ⟨w2,bV⟩:∃ V,w1.alloc (.cells #[.slice a0 n0 m0,.slice a1 n1 m1,.slice a2 n2 m2,.slice a3 n3 m3] 28)=V:=⟨_,rfl⟩;have B2:Below w1.heap.size w1 w2:=bV ▸ dm;have dC:=af (show BX w2 w1.heap.size 28 [.slice a0 n0 m0,.slice a1 n1 m1,.slice a2 n2 m2,.slice a3 n3 m3] from bV ▸ BX.new w1 _ _);have dE:=af (hk.below B2);have dD:=af (show Zj w2 _ cs from RS.below ed B2);have Bw:=af (hb.trans (B2.mono hb.size));have Hs:=af hs;have df:=af cZ;clear B2 hk ed hb hs cZ;obtain ⟨r,hr⟩:=XP (QI k cs);have HC:=af (hr ▸ cu k cs _ _ _ _ _ w2 dE.o Hs.o dD.o df.o);have Ol:=af hr;clear hr
  have p0:=dC.o.c4;go_wp2_with fail
  try rw [bV]
  clear bV;refine HC.o.mono ?_;rintro en w3 ⟨_,_,_,_,vo,mid,rfl,eF,ak,dA,aI,hb⟩;clear p0 HC eF aI;obtain ⟨⟨b0,q0,z0,rfl⟩,⟨b1,q1,z1,rfl⟩,⟨b2,q2,z2,rfl⟩,⟨b3,q3,z3,rfl⟩⟩:=ak.sl;obtain ⟨ao,co,rfl⟩:=dA.ri.val;obtain ⟨w4,bJ⟩:∃ V,w3.alloc (.cells #[.slice b0 q0 z0,.slice b1 q1 z1,.slice b2 q2 z2,.slice b3 q3 z3] 28)=V:=⟨_,rfl⟩;have B4:Below w3.heap.size w3 w4:=bJ ▸ dm;have fC:=af (show BX w4 w3.heap.size 28 [.slice b0 q0 z0,.slice b1 q1 z1,.slice b2 q2 z2,.slice b3 q3 z3] from bJ ▸ BX.new w3 _ _);have fD:=af (ak.rk.below B4);have SQ:=af (dA.ri.below B4);have VS:=hb.trans (B4.mono hb.size);replace dC:=af (dC.o.below VS);replace dE:=af (dE.o.below VS);replace dD:=af (show Zj w4 _ cs from RS.below dD.o VS);replace Bw:=af (Bw.o.trans (VS.mono Bw.o.size));clear ak dA hb B4 VS
  have HC:=af (Ol.o ▸ bu k cs _ _ _ _ _ w4 dE.o Hs.o dD.o df.o);have p0:=dC.o.c4;go_wp2_with fail
  try rw [bJ]
  clear bJ;refine HC.o.mono ?_;rintro en w5 ⟨_,_,_,_,vt,rfl,eQ,dZ,hb⟩;clear p0 HC;obtain ⟨⟨d0,x0,y0,rfl⟩,⟨d1,x1,y1,rfl⟩,⟨d2,x2,y2,rfl⟩,⟨d3,x3,y3,rfl⟩⟩:=eQ.slc;obtain ⟨at',ct,rfl⟩:=dZ.val;obtain ⟨w6,bU⟩:∃ V,w5.alloc (.cells #[.slice d0 x0 y0,.slice d1 x1 y1,.slice d2 x2 y2,.slice d3 x3 y3] 28)=V:=⟨_,rfl⟩;have B6:Below w5.heap.size w5 w6:=bU ▸ dm;have bZ:=hb.trans (B6.mono hb.size);have H:=af (show x8 w w6 w1.heap.size w3.heap.size w5.heap.size k r cs (.slice (some ⟨bl,0,none⟩) cs.length cl) (.slice ao r.2.length co) (.slice at' r.2.length ct) (.slice a0 n0 m0) (.slice a1 n1 m1) (.slice a2 n2 m2) (.slice a3 n3 m3) (.slice b0 q0 z0) (.slice b1 q1 z1) (.slice b2 q2 z2) (.slice b3 q3 z3) (.slice d0 x0 y0) (.slice d1 x1 y1) (.slice d2 x2 y2) (.slice d3 x3 y3) from
   ⟨Bw.o.trans (bZ.mono Bw.o.size),dC.o.below bZ,dE.o.below bZ,RS.below dD.o bZ,fC.o.below bZ,fD.o.below bZ,SQ.o.below bZ,bU ▸ BX.new w5 _ _,eQ.below B6,dZ.below B6⟩)
  obtain ⟨gk,eX⟩:∃ g,w1.heap.size=g:=⟨_,rfl⟩;obtain ⟨go,eU⟩:∃ g,w3.heap.size=g:=⟨_,rfl⟩;obtain ⟨gw,fB⟩:∃ g,w5.heap.size=g:=⟨_,rfl⟩;rw [eX,eU,fB] at H;clear eQ dZ hb B6 bZ dC dE dD fC fD SQ Bw;go_wp2_with fail
  try rw [bU]
  try rw [eX]
  try rw [eU]
  try rw [fB]
  clear bU eX eU fB;refine (QB _ _ _ _ _ H.o.co H.o.cw).mono ?_;rintro en w7 ⟨rfl,hb⟩;rw [decide_eq_true rfl];replace H:=af (H.o.go hb);clear hb;have o0:=H.o.xo.c4;have t0:=H.o.xw.c4;go_wp2_with fail;clear o0 t0;refine (adE r.1 _ _ _ _ _ _ _ _ _ H.o.ro H.o.rw).mono ?_;rintro en w8 ⟨rfl,hb⟩;replace H:=af (H.o.go hb);clear hb;have p0:=H.o.dY.c4;go_wp2_with fail;clear p0;refine (kJ k _ _ _ _ _ H.o.rk Hs.o).mono ?_;rintro en w9 ⟨rfl,hb⟩;replace H:=af (H.o.go hb);clear hb
  cases aB:az k with
  | false =>
   clear aB;go_wp2_with fail;refine (QB _ _ _ _ _ H.o.co H.o.cw).mono ?_;rintro en w10 ⟨rfl,hb⟩;rw [decide_eq_true rfl];replace H:=af (H.o.go hb);clear hb;have o0:=H.o.xo.c4;have t0:=H.o.xw.c4;go_wp2_with fail;refine (adE r.1 _ _ _ _ _ _ _ _ _ H.o.ro H.o.rw).mono ?_;rintro en UR ⟨rfl,hb⟩;replace H:=af (H.o.go hb);clear hb;go_wp2_with fail;go_ret;exact ⟨rfl,H.o.b⟩
  | true =>
   have bF:=af aB;have Hf:=af (show cs.foldl Kx.uK (k,[])=r by rw [<-Ol.o];unfold QI;rw [aB];rfl);clear aB Ol;have ik:=af (show r.2.length=cs.length by rw [<-Hf.o];have:=Kx.bi cs k [];simpa using this);obtain ⟨wa,bI⟩:∃ V,w9.alloc (.cells #[.slice a0 n0 m0,.slice a1 n1 m1,.slice a2 n2 m2,.slice a3 n3 m3] 28)=V:=⟨_,rfl⟩;have HX:=af (show ul w9 wa w9.heap.size k (.slice a0 n0 m0) (.slice a1 n1 m1) (.slice a2 n2 m2) (.slice a3 n3 m3) from
    ⟨bI ▸ dm,bI ▸ BX.new w9 _ _,fun V hu=>H.o.rk.below (show Below w9.heap.size w9 V from ⟨hu.os.trans (by rw [<-bI];rfl),hu.tape.trans (by rw [<-bI];rfl),hu.output.trans (by rw [<-bI];rfl),Nat.le_trans (by rw [<-bI];simp) hu.size,fun j hj=>(hu.block j (by rw [<-bI];simp;omega) (by simp;omega)).trans (by rw [<-bI];exact Below.heap_alloc w9 _ j hj)⟩),bF.o,⟨⟨_,_,_,rfl⟩,⟨_,_,_,rfl⟩,⟨_,_,_,rfl⟩,⟨_,_,_,rfl⟩⟩,Nat.le_refl _⟩)
   obtain ⟨g9,UQ⟩:∃ g,w9.heap.size=g:=⟨_,rfl⟩;have p0:=H.o.dY.c4;rw [UQ] at HX;go_wp2_with fail
   try rw [bI]
   try rw [UQ]
   clear p0 bI UQ;go_loopw [10] (fun i wr=>∃ (j:Nat) (q:Kx.Kernel) (u0 u1 u2 u3:Value),i=I_ j/\j<=cs.length/\TI (((cs.take j).foldl Kx.uK (k,[])).1=q)/\TI (ul w9 wr g9 q u0 u1 u2 u3)) (fun i _=>cs.length - (intOf i).toNat)
   case atStart=>exact ⟨0,k,_,_,_,_,rfl,Nat.zero_le _,rfl,HX⟩
   case round =>
    clear HX;obtain ⟨j,q,u0,u1,u2,u3,rfl,hj,Hq,HX⟩:=hrel;have fO:cs.length<=1099511627776:=H.o.rl.1;obtain ⟨⟨e0,i0,j0,rfl⟩,⟨e1,i1,j1,rfl⟩,⟨e2,i2,j2,rfl⟩,⟨e3,i3,j3,rfl⟩⟩:=HX.o.sl
    by_cases aI:j<cs.length
    ·obtain ⟨gQ,ol,xl,el,dF,hq⟩:=RS.at (H.o.go HX.o.b).rl aI;obtain ⟨⟨rfl,rfl,_⟩,_,rfl⟩:=Zb el;clear el;have kQ:(j:Int)<(cs.length:Int):=by omega
     have bH:=af (df.o cs[j] (List.getElem_mem aI));have HT:=af (show ((cs.take (j+1)).foldl Kx.uK (k,[])).1=(Kx.bf q cs[j]).1 by rw [Kx.bn cs k aI,Kx.aj,Hq.o]);have Xo:=af (show r.2[j]'(by have:=ik.o;omega)=(Kx.bf q cs[j]).2 by
      have:=Kx.ou cs k aI
      rw [Hf.o,Hq.o] at this;exact (List.getElem?_eq_some_iff.1 this).2)
     generalize cs[j]=c at hq HT bH Xo;obtain ⟨bQ,JF,ca,cb,cc,bg⟩:=c;have Q0:=af (show wr.cell? ⟨bl,j*6,none⟩=some (I_ bQ) from by have h:=hq 0 _ rfl;rw [Nat.zero_add] at h;exact h);have Q1:=af (show wr.cell? ⟨bl,j*6+1,none⟩=some (I_ JF) from by have h:=hq 1 _ rfl;rw [Nat.zero_add] at h;exact h);have Q2:=af (show wr.cell? ⟨bl,j*6+2,none⟩=some (I_ ca) from by have h:=hq 2 _ rfl;rw [Nat.zero_add] at h;exact h);have Q3:=af (show wr.cell? ⟨bl,j*6+3,none⟩=some (I_ cb) from by have h:=hq 3 _ rfl;rw [Nat.zero_add] at h;exact h);have dI:=af (show wr.cell? ⟨bl,j*6+4,none⟩=some (I_ cc) from by have h:=hq 4 _ rfl;rw [Nat.zero_add] at h;exact h);have dJ:=af (show wr.cell? ⟨bl,j*6+5,none⟩=some (.string bg) from by have h:=hq 5 _ rfl;rw [Nat.zero_add] at h;exact h);have ND:=af dF;clear dF hq
     have HC:=af (fun W (hb:Below wr.heap.size wr W)=>adb q ⟨bQ,JF,ca,cb,cc,bg⟩ _ _ _ _ W (HX.o.below hb).rk (jX HX.o.ok) bH.o.1 bH.o.2)
     unfold dW at HC;have HS:=Kx.mg (Kx.nN.1 HX.o.ok) ⟨bQ,JF,ca,cb,cc,bg⟩;have fV:=af (show az (Kx.bf q ⟨bQ,JF,ca,cb,cc,bg⟩).1=true from Kx.nN.2 (Kx.sH (Kx.nN.1 HX.o.ok) ⟨bQ,JF,ca,cb,cc,bg⟩));obtain ⟨r1,fJ⟩:=XP (Kx.QH q ⟨bQ,JF,ca,cb,cc,bg⟩);rw [fJ] at HC HS;obtain ⟨Vs,fM,fE⟩:=HS;rw [<-Vs] at Xo;have fF:=af fM;have gq:=af fE;clear Vs fM fE fJ
     have aC:=af (show ∀ W,Below wr.heap.size wr W->(W.cell? ⟨g9,0,none⟩=some (.slice e0 i0 j0)/\W.cell? ⟨g9,1,none⟩=some (.slice e1 i1 j1)/\W.cell? ⟨g9,2,none⟩=some (.slice e2 i2 j2)/\W.cell? ⟨g9,3,none⟩=some (.slice e3 i3 j3)/\W.cell? ⟨bl,j*6,none⟩=some (I_ bQ)/\W.cell? ⟨bl,j*6+1,none⟩=some (I_ JF)/\W.cell? ⟨bl,j*6+2,none⟩=some (I_ ca)/\W.cell? ⟨bl,j*6+3,none⟩=some (I_ cb)/\W.cell? ⟨bl,j*6+4,none⟩=some (I_ cc)/\W.cell? ⟨bl,j*6+5,none⟩=some (.string bg)) from fun W h=>⟨(HX.o.x.below h).cell 0,(HX.o.x.below h).cell 1,(HX.o.x.below h).cell 2,(HX.o.x.below h).cell 3,(h.cell (p:=⟨bl,j*6,none⟩) ND.o).trans Q0.o,(h.cell (p:=⟨bl,j*6+1,none⟩) ND.o).trans Q1.o,(h.cell (p:=⟨bl,j*6+2,none⟩) ND.o).trans Q2.o,(h.cell (p:=⟨bl,j*6+3,none⟩) ND.o).trans Q3.o,(h.cell (p:=⟨bl,j*6+4,none⟩) ND.o).trans dI.o,(h.cell (p:=⟨bl,j*6+5,none⟩) ND.o).trans dJ.o⟩)
     have ax:=Below.refl wr.heap.size wr;have eH:=aC.o _ (Below.bz ax);go_wp2_with fail;refine afi aC fun ah=>?_
     clear eH;obtain ⟨d,hd⟩:=XP wr.drew;rw [hd] at ah ⊢;replace ax:Below wr.heap.size wr d:=hd ▸ Below.bz ax;clear hd;refine afV 0 ?_;refine ac' 4 ?_;refine ae' 5 10 (fun K hK=>?_) (fun K hK=>?_)
     case' refine_1 =>
      (go_simp;go_at_call 28;refine (HC.o _ ax).mono ?_;rintro en V1 ⟨_,_,_,_,rfl,ak,hb⟩;obtain ⟨⟨g0,WR,WS,rfl⟩,⟨g1,WT,WU,rfl⟩,⟨g2,WV,WW,rfl⟩,⟨g3,WX,WY,rfl⟩⟩:=ak.sl;have au:=ax.trans (hb.mono ax.size);have aG:=af (ak.mono (show wr.heap.size<=_ from ax.size));clear ak hb;have dQ:=aC.o V1 au;go_wp2_with fail)
      refine afS hK fun ah=>?_
      clear hK K;refine afV 6 ?_;refine ahk 10 fun K hK=>?_
      (go_simp;obtain ⟨aH,hU⟩:∃ V,V1.alloc (.cells #[.slice none 0 0,.slice none 0 0,.slice none 0 0,.slice none 0 0] 28)=V:=⟨_,rfl⟩;have aA:=af (show BX aH V1.heap.size 28 [.slice none 0 0,.slice none 0 0,.slice none 0 0,.slice none 0 0] from hU ▸ BX.new V1 _ _);obtain ⟨g7,Fh⟩:∃ g,V1.heap.size=g:=⟨_,rfl⟩;have dB:wr.heap.size<=g7:=Fh ▸ au.size;have aX:=(show Below V1.heap.size V1 aH from hU ▸ dm);replace aG:=af (aG.o.below aX);have bG:=au.trans (aX.mono au.size);have dR:=aC.o aH bG;rw [Fh] at aA ⊢;try rw [hU];clear hU Fh aX)
      refine afS hK fun ah=>?_
      clear hK K
     case' refine_2 =>
      (go_simp;obtain ⟨U,hU⟩:∃ V,d.alloc (.cells #[.slice none 0 0,.slice none 0 0,.slice none 0 0,.slice none 0 0] 28)=V:=⟨_,rfl⟩;have aA:=af (show BX U d.heap.size 28 [.slice none 0 0,.slice none 0 0,.slice none 0 0,.slice none 0 0] from hU ▸ BX.new d _ _);obtain ⟨g7,Fh⟩:∃ g,d.heap.size=g:=⟨_,rfl⟩;have dB:wr.heap.size<=g7:=Fh ▸ ax.size;have aX:=(show Below d.heap.size d U from hU ▸ dm);have au:=ax.trans (aX.mono ax.size);have dQ:=aC.o U au;rw [Fh] at aA ⊢;try rw [hU];clear hU Fh aX)
      refine afS hK fun ah=>?_
      clear hK K;refine ahk 5 fun K hK=>?_
      (go_simp;go_at_call 28;refine (HC.o _ au).mono ?_;rintro en aH ⟨_,_,_,_,rfl,ak,hb⟩;obtain ⟨⟨g0,WR,WS,rfl⟩,⟨g1,WT,WU,rfl⟩,⟨g2,WV,WW,rfl⟩,⟨g3,WX,WY,rfl⟩⟩:=ak.sl;have bG:=au.trans (hb.mono au.size);have aG:=af (ak.mono (show wr.heap.size<=_ from au.size));replace aA:=af (aA.o.below hb);clear ak hb;have dR:=aC.o aH bG;go_wp2_with fail)
      refine afS hK fun ah=>?_
      clear hK K;refine afV 6 ?_
     all_goals
      have p0:=aA.o.c4;have gG:=aA.o.f4;refine ahk 11 fun K hK=>?_
      (go_simp;obtain ⟨V,hV⟩:=XP (sets aH g7 0 [.slice g0 WR WS,.slice g1 WT WU,.slice g2 WV WW,.slice g3 WX WY]);have bW:Below wr.heap.size wr V:=hV ▸ dP dB _ 0 bG;have dS:=af (show BX V g7 28 [.slice g0 WR WS,.slice g1 WT WU,.slice g2 WV WW,.slice g3 WX WY] from hV ▸ aA.o.sets _ rfl);replace aG:=af (show KO V wr.heap.size (.slice g0 WR WS) (.slice g1 WT WU) (.slice g2 WV WW) (.slice g3 WX WY) r1.1 from hV ▸ KO.sets aJ _ 0 aA.o aG.o);rw [afA aH,hV];have eY:=aC.o V bW)
      refine afS hK fun ah=>?_
      clear hK K;refine afU 12 ?_;refine wpAnyH_done (by kernel_rfl) ?_ _;have dU:=af bW;clear hV p0 gG ah dB bG au dQ dR eY aA ax bW aC HC
      by_cases h5:r1.2.2=5
      ·have gu:(r1.2.2 != 5)=false:=by simp [h5]
       have bC:=af (show ((cs.take (j+1)).foldl Kx.uK (k,[])).1=q by rw [HT.o,gq.o h5]);have H7:=af (HX.o.below dU.o);clear h5;obtain ⟨bo,oo,gy,eo,gz,dA⟩:=(H.o.go H7.o.b).co.at (k:=j) (by have:=ik.o;omega);obtain ⟨rfl,_,rfl⟩:=Za eo;clear eo;rw [Xo.o] at dA;have Q5:(j:Int)<(r.2.length:Int):=by have:=ik.o;omega
       have gI:j<r.2.length:=by have:=ik.o;omega
       go_wp2_with fail;go_roundw
       case rel=>exact ⟨j+1,_,_,_,_,_,by go_num,by omega,bC,H7⟩
       case measure=>simp [intOf];omega
      have gu:(r1.2.2 != 5)=true:=by simpa using h5
      have bC:=af (show ((cs.take (j+1)).foldl Kx.uK (k,[])).1=r1.1 by rw [HT.o,fF.o h5]);have H7:=af (HX.o.call dU.o aG.o (by rw [fF.o h5];exact fV.o));clear h5;have gB:=dS.o.c4;obtain ⟨r0,gJ,r2,r3⟩:=(HX.o.x.below dU.o).c4;obtain ⟨jh,ji,jk,jl⟩:=(HX.o.x.below dU.o).f4;obtain ⟨V7,bD⟩:∃ U,sets V g9 0 [.slice g0 WR WS,.slice g1 WT WU,.slice g2 WV WW,.slice g3 WX WY]=U:=⟨_,rfl⟩;rw [bD] at H7;go_upto_region 15 with fail;rw [afA V,bD];clear r0 gJ r2 r3 jh ji jk jl gB bD;obtain ⟨bo,oo,gy,eo,gz,dA⟩:=(H.o.go H7.o.b).co.at (k:=j) (by have:=ik.o;omega);obtain ⟨rfl,_,rfl⟩:=Za eo;clear eo;rw [Xo.o] at dA
      have Q5:(j:Int)<(r.2.length:Int):=by have:=ik.o;omega
      have gI:j<r.2.length:=by have:=ik.o;omega
      go_wp2_with fail;go_roundw
      case rel=>exact ⟨j+1,_,_,_,_,_,by go_num,by omega,bC,H7⟩
      case measure=>simp [intOf];omega
    obtain rfl:j=cs.length:=by omega
    rw [List.take_length,Hf.o] at Hq;obtain rfl:=Hq.o;have aP:=af (H.o.go HX.o.b);have p0:=HX.o.x.c4;have o0:=aP.o.xo.c4;go_wp2_with fail;clear p0 o0;refine (adE r.1 _ _ _ _ _ _ _ _ _ HX.o.rk aP.o.ro).mono ?_;rintro en wb ⟨rfl,hb⟩;replace aP:=af (aP.o.go hb);have gW:=ik.o;have dK:=af HX.o.ok;clear hb HX;have o0:=aP.o.xo.c4;go_wp2_with fail;refine (mX r.1 _ _ _ _ _ aP.o.ro (jX dK.o)).mono ?_;rintro en wc ⟨rfl,hb⟩;rw [dK.o];have HB:=af (aP.o.go hb).b;go_wp2_with fail;go_ret;exact ⟨rfl,HB.o⟩
 have fP:(1048576:Int)<(len0:Int):=by omega
 clear h0;go_enter func6,ntmps6;go_wp2_with fail;go_ret;exact ⟨rfl,Below.refl _ _⟩
end Go.Proofs.YthcmmoibpgcgaaaGreatDoor
