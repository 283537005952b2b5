/- The law FnKernelPlaySplit: calls can be divided. -/
import Derived.Test.YthcmmoibpgcgaaaGreatDoorKMn
import Derived.Test.YthcmmoibpgcgaaaGreatDoorKMa
set_option linter.all false
set_option maxHeartbeats 8000000
set_option maxRecDepth 100000
open Go.Proofs.Tryz
namespace Go.Proofs.YthcmmoibpgcgaaaGreatDoor
open Go.RowKit Kx

end Go.Proofs.YthcmmoibpgcgaaaGreatDoor
namespace Kx
def oq (k:Kernel) (c:Call):Kernel×Int:=if bK c.env 0 2 then ((cO k c).1,(cO k c).2.2) else (k,5)
theorem bf (s:Kernel×List Int) (c:Call):uK s c=((oq s.1 c).1,s.2 ++ [(oq s.1 c).2]):=by
 unfold uK oq;split <;> rfl
theorem gm (cs:List Call) (k:Kernel) {i:Nat} (hi:i<cs.length):(cs.take (i+1)).foldl uK (k,[])=uK ((cs.take i).foldl uK (k,[])) cs[i]:=by
 rw [List.take_succ_eq_append_getElem hi,List.foldl_append];rfl
theorem bi:∀ (cs:List Call) (k:Kernel) (l:List Int),(cs.foldl uK (k,l)).2.length=l.length+cs.length
 | [],_,_=>rfl
 | c :: cs,k,l=>by
  rw [List.foldl_cons,bf,bi cs];simp only [List.length_append,List.length_cons,List.length_nil];omega
end Kx
namespace Go.Proofs.YthcmmoibpgcgaaaGreatDoor
open Go.RowKit Kx

def ul (w:World) (base hi:Nat) (um ui ue uc:Value) (k:Kx.Kernel):Prop:=∀ V:World,w.heap.size<=V.heap.size->(∀ j,base<=j->j<hi->V.heap[j]?=w.heap[j]?)->RK V um ui ue uc k
theorem gp (g:Nat) (l:List Value) {j:Nat} (hj:j≠g):∀ (i:Nat) (w:World),(sets w g i l).heap[j]?=w.heap[j]?:=by
 induction l with
 | nil=>intro i w;rfl
 | cons v l ih=>intro i w;exact (ih (i+1) _).trans (Below.heap_setCell _ _ _ _ hj)
section
variable {w W V:World} {base hi g g4 g6:Nat} {um ui ue uc u0 u1 u2 u3 z0 z1 z2 z3 v v':Value} {k k':Kx.Kernel} {l:List Int}
theorem ul.to (h:ul w base hi um ui ue uc k) (hs:w.heap.size<=V.heap.size) (hk:∀ j,base<=j->j<hi->V.heap[j]?=w.heap[j]?):ul V base hi um ui ue uc k:=
 fun U h1 h2=>h U (Nat.le_trans hs h1) (fun j a b=>(h2 j a b).trans (hk j a b))
theorem KO.fF (h:KO w base um ui ue uc k):ul w base w.heap.size um ui ue uc k:=fun _ hs hk=>(h.up ⟨hs,hk⟩).rk
structure lm (w W:World) (g4 g6:Nat) (k:Kx.Kernel) (u0 u1 u2 u3 v:Value) (l:List Int):Prop where
 b:Below w.heap.size w W
 x4:BX W g4 28 [.slice none 0 0,.slice none 0 0,.slice none 0 0,.slice none 0 0]
 x6:BX W g6 28 [u0,u1,u2,u3]
 f:∃ base hi,g4<base/\(g6<base\/hi<=g6)/\hi<=W.heap.size/\(∀ b,v.ownBlock=some b->b<base\/hi<=b)/\ul W base hi u0 u1 u2 u3 k
 o:OI W w.heap.size v l
 ok:az k=true
 sl:Sl u0/\Sl u1/\Sl u2/\Sl u3
 h:w.heap.size<=g4/\g4<g6
theorem lm.below (h:lm w W g4 g6 k u0 u1 u2 u3 v l) (hb:Below W.heap.size W V):lm w V g4 g6 k u0 u1 u2 u3 v l:=by
 obtain ⟨base,hi,h0,h1,h2,h3,hk⟩:=h.f;exact ⟨h.b.trans (hb.mono h.b.size),h.x4.below hb,h.x6.below hb,⟨base,hi,h0,h1,Nat.le_trans h2 hb.size,h3,hk.to hb.size (fun j _ b=>hb.block j (by omega))⟩,h.o.below hb,h.ok,h.sl,h.h⟩
theorem lm.rk (h:lm w W g4 g6 k u0 u1 u2 u3 v l):RK W u0 u1 u2 u3 k:=by
 obtain ⟨base,hi,h0,h1,h2,h3,hk⟩:=h.f;exact hk W aW (fun _ _ _=>rfl)
theorem lm.call (h:lm w W g4 g6 k u0 u1 u2 u3 v l) (hb:Below W.heap.size W V) (ak:KO V W.heap.size z0 z1 z2 z3 k') (aI:az k'=true):lm w (sets V g6 0 [z0,z1,z2,z3]) g4 g6 k' z0 z1 z2 z3 v l:=by
 have h':=h.below hb;have hh:=h.h;have hl:=h.x6.lt;exact ⟨dP (by omega) _ 0 h'.b,BX.iq (by omega) _ 0 h'.x4,h'.x6.sets _ rfl,
  ⟨W.heap.size,V.heap.size,h.x4.lt,.inl hl,by rw [kD];exact Nat.le_refl _,fun b hb'=>.inl (h.o.lt b hb').2,ak.fF.to (by rw [kD];exact Nat.le_refl _) (fun j a _=>gp g6 _ (by omega) _ _)⟩,
  (OS.sets (by decide) _ 0 h'.x6 h'.o.os).oi,aI,ak.sl,hh⟩
theorem lm.app {x:Int} (h:lm w W g4 g6 k u0 u1 u2 u3 v l) (ho:OS iR 1 3 V w.heap.size v' (l ++ [x])) (hg:W.grownBy V v.ownBlock) (hv:v'.ownBlock=v.ownBlock\/v'.ownBlock=some W.heap.size):lm w V g4 g6 k u0 u1 u2 u3 v' (l ++ [x]):=by
 obtain ⟨base,hi,h0,h1,h2,h3,hk⟩:=h.f;exact ⟨Below.app h.b h.o hg aW h.b.size,h.x4.dw h.o.os hg (by decide),h.x6.dw h.o.os hg (by decide),
  ⟨base,hi,h0,h1,Nat.le_trans h2 hg.size,fun b hb=>by
   rcases hv with hv | hv
   ·exact h3 b (hv ▸ hb)
   rw [hv] at hb;simp only [Option.some.injEq] at hb;exact .inr (by omega),hk.to hg.size (fun j a b=>hg.block j (by omega) (fun e=>by have:=h3 j e.symm;omega))⟩,ho.oi,h.ok,h.sl,h.h⟩
end
def pg (w:World) (r:Kx.Kernel×List Int) (en:Ending) (w':World):Prop:=
 ∃ um ui ue uc v,en=.returned (.tuple #[.agg #[um,ui,ue,uc],v])/\RK w' um ui ue uc r.1/\RI w' v r.2/\Below w.heap.size w w'
def rq (w:World) (r:Kx.Kernel×List Int) (en:Ending) (w':World):Prop:=
 ∃ um ui ue uc v mid,en=.returned (.tuple #[.agg #[um,ui,ue,uc],v])/\w.heap.size<=mid/\KO w' mid um ui ue uc r.1/\OI w' w.heap.size v r.2/\(∀ b,v.ownBlock=some b->b<mid)/\Below w.heap.size w w'
theorem RK.slc {w:World} {um ui ue uc:Value} {k:Kx.Kernel} (h:RK w um ui ue uc k):Sl um/\Sl ui/\Sl ue/\Sl uc:=by
 obtain ⟨_,a1,c1,e1,_,_⟩:=h.m.len;obtain ⟨a2,c2,e2,_,_⟩:=RS.val h.i;obtain ⟨_,a3,c3,e3,_,_⟩:=h.e.len;obtain ⟨a4,c4,e4,_,_⟩:=RS.val h.c;exact ⟨⟨_,_,_,e1⟩,⟨_,_,_,e2⟩,⟨_,_,_,e3⟩,⟨_,_,_,e4⟩⟩
theorem ac' {P:Program} {ops:Array Oper} {Q:Exit->Act->World->Prop} {md:Region.Mode} {S:World->Prop} {o1:Oper} {v1:Value} {fuel:Nat} {listed l1:Array Bool} {a a1:Act} {w:World} (i:Nat) (h:wpAnyH P md ops Q S fuel l1 a1 w) (hS:S w:=by assumption) (h1:Stp P md ops Q S i o1 v1 listed l1 a a1:=by exact stp):wpAnyH P md ops Q S (fuel+1) listed a w:=h1.go hS h
theorem ae' {P:Program} {ops:Array Oper} {Q:Exit->Act->World->Prop} {md:Region.Mode} {S:World->Prop} {oi oj:Oper} {fuel:Nat} {listed:Array Bool} {a:Act} {w:World} (i j:Nat)
  (h:∀ K':Act->World->Prop,Shut (∀ a w,S w->(S w->wpAnyH P md ops Q S fuel (listed.setIfInBounds i true) a w)->K' a w)->Oper.wp P oi a w K' Q)
  (h':∀ K':Act->World->Prop,Shut (∀ a w,S w->(S w->wpAnyH P md ops Q S fuel (listed.setIfInBounds j true) a w)->K' a w)->Oper.wp P oj a w K' Q)
  (hi:ops[i]?=some oi:=by rfl) (hj:ops[j]?=some oj:=by rfl) (hr:Region.ready md ops listed=[i,j]:=by kernel_rfl) (hw:Region.wanted oi (yielded ops a.tmps)=true:=by rfl) (hw':Region.wanted oj (yielded ops a.tmps)=true:=by rfl) :
  wpAnyH P md ops Q S (fuel+1) listed a w:=
 wpAnyH_ready (rs:=[i,j]) hr (by simp) (AllReadyH.cons hi (fun K hK=>by rw [if_pos hw];exact h K hK) (AllReadyH.cons hj (fun K hK=>by rw [if_pos hw'];exact h' K hK) AllReadyH.nil))
theorem bn (k:Kx.Kernel) (cs:List Kx.Call) (vm vi ve vc vl:Value) (w:World) (h:RK w vm vi ve vc k) (hs:iQ k) (hl:Zj w vl cs) (dh:∀ c ∈ cs,c.name.size<=9223372036854775807/\c.c<=9223372036854775807) :
  Calls prog 24 #[.agg #[vm,vi,ve,vc],vl] w (pg w (QI k cs)):=by
 obtain ⟨al,cl,rfl,_,_⟩:=RS.val hl;obtain ⟨⟨am,nm,cm,rfl⟩,⟨ai,ni,ci,rfl⟩,⟨ae,ne,ce,rfl⟩,⟨ac,nc,cq,rfl⟩⟩:=h.slc;obtain ⟨w0,bW⟩:=XP (w.alloc (.cells #[.slice am nm cm,.slice ai ni ci,.slice ae ne ce,.slice ac nc cq] 28));obtain ⟨w1,aU⟩:=XP (w0.alloc (.cells #[.slice none 0 0,.slice none 0 0,.slice none 0 0,.slice none 0 0] 28));have B0:Below w.heap.size w w0:=bW ▸ dm;have B1:Below w0.heap.size w0 w1:=aU ▸ dm;have s0:w.heap.size<w0.heap.size:=by rw [<-bW];simp
 have s1:w0.heap.size<w1.heap.size:=by rw [<-aU];simp
 obtain ⟨w2,bV⟩:=XP (w1.alloc (.cells #[] 3));have B2:Below w1.heap.size w1 w2:=bV ▸ dm;have Bw:=af (show Below w.heap.size w w2 from B0.trans ((B1.trans (B2.mono B1.size)).mono B0.size));have X0:=af (show BX w2 w.heap.size 28 [.slice am nm cm,.slice ai ni ci,.slice ae ne ce,.slice ac nc cq] from ((bW ▸ BX.new w _ _:BX w0 _ _ _).below B1).below B2);have X2:=af (show BX w2 w0.heap.size 28 [.slice none 0 0,.slice none 0 0,.slice none 0 0,.slice none 0 0] from (aU ▸ BX.new w0 _ _:BX w1 _ _ _).below B2);have bD:=af (show OI w2 w.heap.size (.slice (some ⟨w1.heap.size,0,none⟩) 0 0) [] from bV ▸ OI.d_ (by omega));have s2:w1.heap.size<w2.heap.size:=by rw [<-bV];simp
 clear B2;have HR:=af (show RK w _ _ _ _ k from h);have HL:=af hl;have HS:=af hs;have cZ:=af dh;have HV:=af (kJ k _ _ _ _ w2 (HR.o.below Bw.o) hs);have HK:=af (show QI k cs=if !az k then (Kx.Kernel.zero,[]) else cs.foldl Kx.uK (k,[]) from rfl);clear h hs hl dh B0 B1;go_enter func24,ntmps24;have p0:=X0.o.c4;go_wp2_with fail;clear bW aU bV;refine HV.o.mono ?_;rintro en w3 ⟨rfl,hb⟩;clear HV p0;replace X0:=af (X0.o.below hb);replace X2:=af (X2.o.below hb);replace bD:=af (bD.o.below hb);have dA:=af (show w2.heap.size<=w3.heap.size from hb.size);replace Bw:=af (Bw.o.trans (hb.mono Bw.o.size));have p0:=X0.o.c4;clear hb
 cases aI:az k with
 | false =>
  have HF:=af (show QI k cs=(Kx.Kernel.zero,[]) by rw [HK.o,aI];rfl);clear aI;obtain ⟨r0,r1,r2,r3⟩:=X2.o.c4;obtain ⟨jh,ji,jk,jl⟩:=X2.o.f4;go_wp2_with fail;obtain ⟨F,hF⟩:=XP (sets w3 w0.heap.size 0 [.slice none 0 0,.slice none 0 0,.slice none 0 0,.slice none 0 0]);rw [afA w3,hF];have BF:Below w.heap.size w F:=hF ▸ dP (by omega) _ 0 Bw.o;have dB:BX F w0.heap.size 28 [.slice none 0 0,.slice none 0 0,.slice none 0 0,.slice none 0 0]:=hF ▸ X2.o.sets _ rfl;obtain ⟨e0,e1,e2,e3⟩:=dB.c4
  refine af7 (by simp [results,results24,go_sem,e0,e1,e2,e3]<;>rfl) ?_;rw [HF.o];exact ⟨_,_,_,_,_,rfl,(KO.zero F 0).rk,(hF ▸ (OS.sets (by decide) _ 0 X2.o bD.o.os):OS iR 1 3 F _ _ _).oi.ri,BF⟩
 | true =>
  have HF:=af (show QI k cs=cs.foldl Kx.uK (k,[]) by rw [HK.o,aI];rfl);have dV:=af (show Calls prog 85 #[.agg #[.slice am nm cm,.slice ai ni ci,.slice ae ne ce,.slice ac nc cq]] w3 _ from by obtain ⟨hl1,hl2,hl3,hl4,hl5⟩:=nR aI;exact vg k _ _ _ _ w3 (HR.o.below Bw.o) hl1 hl2 hl3 hl4 hl5);go_wp2_with fail;refine dV.o.mono ?_;rintro en w4 ⟨um,ui,ue,uc,rfl,ak,hb⟩;clear dV p0 HK;obtain ⟨⟨a0,n0,m0,rfl⟩,⟨a1,n1,m1,rfl⟩,⟨a2,n2,m2,rfl⟩,⟨a3,n3,m3,rfl⟩⟩:=ak.sl;obtain ⟨w5,aX⟩:∃ V,w4.alloc (.cells #[.slice a0 n0 m0,.slice a1 n1 m1,.slice a2 n2 m2,.slice a3 n3 m3] 28)=V:=⟨_,rfl⟩;have B5:Below w4.heap.size w4 w5:=aX ▸ dm;have bU:=hb.trans (B5.mono hb.size);have YJ:=hb.size
  have H:=af (show lm w w5 w0.heap.size w4.heap.size k (.slice a0 n0 m0) (.slice a1 n1 m1) (.slice a2 n2 m2) (.slice a3 n3 m3) (.slice (some ⟨w1.heap.size,0,none⟩) 0 0) [] from
   ⟨Bw.o.trans (bU.mono Bw.o.size),X2.o.below bU,aX ▸ BX.new w4 _ _,
    ⟨w3.heap.size,w4.heap.size,by have:=dA.o;omega,.inr aW,B5.size,fun b hb'=>.inl (bD.o.lt b hb').2,ak.fF.to B5.size (fun j _ h2=>B5.block j h2)⟩,bD.o.below bU,aI,ak.sl,by have:=dA.o;omega⟩)
  obtain ⟨g6,OT⟩:∃ g,w4.heap.size=g:=⟨_,rfl⟩;rw [OT] at H;clear ak hb B5 bU X0 X2 bD aI YJ dA Bw;go_wp2_with fail
  try rw [aX]
  try rw [OT]
  clear aX OT;obtain ⟨g4,dZ⟩:∃ g,w0.heap.size=g:=⟨_,rfl⟩
  try rw [dZ] at H ⊢
  clear dZ s0 s1 s2;go_loopw [6,8] (fun v i wr=>∃ (j:Nat) (q:Kx.Kernel×List Int) (u0 u1 u2 u3:Value),i=I_ j/\j<=cs.length/\TI ((cs.take j).foldl Kx.uK (k,[])=q)/\TI (lm w wr g4 g6 q.1 u0 u1 u2 u3 v q.2)) (fun _ i _=>cs.length - (intOf i).toNat)
  case atStart=>exact ⟨0,(k,[]),_,_,_,_,rfl,Nat.zero_le _,rfl,H⟩
  case round =>
   clear H;obtain ⟨j,q,u0,u1,u2,u3,rfl,hj,Hq,H⟩:=hrel;have ik:=af (show q.2.length=j by have:=Kx.bi (cs.take j) k [];rw [Hq.o] at this;simp at this;omega);have iF:cs.length<=1099511627776:=HL.o.1;obtain ⟨⟨b0,q0,z0,rfl⟩,⟨b1,q1,z1,rfl⟩,⟨b2,q2,z2,rfl⟩,⟨b3,q3,z3,rfl⟩⟩:=H.o.sl
   by_cases bT:j<cs.length
   ·obtain ⟨bl,ol,xl,el,gJ,hq⟩:=RS.at (RS.below HL.o H.o.b) bT;obtain ⟨rfl,_,rfl⟩:=Za el;clear el;have kQ:(j:Int)<(cs.length:Int):=by omega
    have dL:=af (cZ.o cs[j] (List.getElem_mem bT));have HT:=af (show (cs.take (j+1)).foldl Kx.uK (k,[])=Kx.uK q cs[j] by rw [Kx.gm cs k bT,Hq.o]);generalize cs[j]=c at hq HT dL;obtain ⟨bQ,JF,ca,cb,cc,bg⟩:=c;have q0:wr.cell? ⟨bl,ol+j*6,none⟩=some (I_ bQ):=hq 0 _ rfl;have q1:wr.cell? ⟨bl,ol+j*6+1,none⟩=some (I_ JF):=hq 1 _ rfl;have q2:wr.cell? ⟨bl,ol+j*6+2,none⟩=some (I_ ca):=hq 2 _ rfl;have q3:wr.cell? ⟨bl,ol+j*6+3,none⟩=some (I_ cb):=hq 3 _ rfl;have q4:wr.cell? ⟨bl,ol+j*6+4,none⟩=some (I_ cc):=hq 4 _ rfl;have q5:wr.cell? ⟨bl,ol+j*6+5,none⟩=some (.string bg):=hq 5 _ rfl;clear hq;have ND:=af gJ;have Q0:=af q0;have Q1:=af q1;have Q2:=af q2;have Q3:=af q3;have fG:=af q4;have fH:=af q5;clear gJ q0 q2 q3 q4 q5;go_wp2_with fail;refine (qZ _ _).mono ?_;rintro en w9 ⟨rfl,rfl⟩;clear q1
    cases bC:Kx.bK JF 0 2 with
    | false =>
     have dC:=af (show (cs.take (j+1)).foldl Kx.uK (k,[])=(q.1,q.2 ++ [5]) by rw [HT.o];unfold Kx.uK;simp only [bC];rfl);clear bC HT Q0 Q1 Q2 Q3 fG fH;have uf:=af (show w.heap.size<=wr.heap.size from H.o.b.size);have HA:=af (H.o.below ((Below.refl wr.heap.size wr).alloc aW (.cells #[I_ 5] 3)));have bZ:=af (show q.2.length+1<=1099511627776 by have:=ik.o;omega);go_wp2_with (at_builtin;refine aV wK rfl _ _ rfl w.heap.size _ q.2 rfl (H.o.o.os.alloc _) _ [(5:Int)] rfl (RS.one (f:=iR) (5:Int) #[I_ 5] rfl _ _) bZ.o (by simp;exact Nat.le_succ_of_le uf.o) ?_;intro v7 w8 xE J5 aY;have H8:=af (HA.o.app xE J5 aY);clear xE J5 aY);go_roundw
     case rel=>exact ⟨j+1,_,_,_,_,_,by go_num,by omega,dC,H8⟩
     case measure=>simp [intOf];omega
    | true =>
     obtain ⟨ed,fQ⟩:=Kx.ay.1 bC;obtain ⟨e,rfl⟩:=Int.eq_ofNat_of_zero_le ed;obtain ⟨r,hr⟩:=XP (Kx.cO q.1 ⟨bQ,(e:Int),ca,cb,cc,bg⟩);have dC:=af (show (cs.take (j+1)).foldl Kx.uK (k,[])=(r.1,q.2 ++ [r.2.2]) by rw [HT.o];unfold Kx.uK;simp only [bC,hr];rfl);have Ky:=af (show az r.1=true from hr ▸ nN.2 ((nN.1 H.o.ok).cO _ bC));have HC:=af (fun W (hb:Below wr.heap.size wr W)=>hr ▸ Ap q.1 ⟨bQ,(e:Int),ca,cb,cc,bg⟩ e _ _ _ _ W (H.o.below hb).rk H.o.ok (jX H.o.ok) rfl (by omega) dL.o.1)
     unfold dW at HC;clear bC hr ed fQ HT;go_wp2_with fail
     have aF:=af (show ∀ W,Below wr.heap.size wr W->(W.cell? ⟨g6,0,none⟩=some (.slice b0 q0 z0)/\W.cell? ⟨g6,1,none⟩=some (.slice b1 q1 z1)/\W.cell? ⟨g6,2,none⟩=some (.slice b2 q2 z2)/\W.cell? ⟨g6,3,none⟩=some (.slice b3 q3 z3)/\W.cell? ⟨bl,ol+j*6,none⟩=some (I_ bQ)/\W.cell? ⟨bl,ol+j*6+1,none⟩=some (I_ (e:Int))/\W.cell? ⟨bl,ol+j*6+2,none⟩=some (I_ ca)/\W.cell? ⟨bl,ol+j*6+3,none⟩=some (I_ cb)/\W.cell? ⟨bl,ol+j*6+4,none⟩=some (I_ cc)/\W.cell? ⟨bl,ol+j*6+5,none⟩=some (.string bg)) from fun W h=>⟨(H.o.x6.below h).cell 0,(H.o.x6.below h).cell 1,(H.o.x6.below h).cell 2,(H.o.x6.below h).cell 3,(h.cell (p:=⟨bl,ol+j*6,none⟩) ND.o).trans Q0.o,(h.cell (p:=⟨bl,ol+j*6+1,none⟩) ND.o).trans Q1.o,(h.cell (p:=⟨bl,ol+j*6+2,none⟩) ND.o).trans Q2.o,(h.cell (p:=⟨bl,ol+j*6+3,none⟩) ND.o).trans Q3.o,(h.cell (p:=⟨bl,ol+j*6+4,none⟩) ND.o).trans fG.o,(h.cell (p:=⟨bl,ol+j*6+5,none⟩) ND.o).trans fH.o⟩)
     have ax:=Below.refl wr.heap.size wr;have dX:=aF.o _ (Below.bz ax);refine afi aF fun ah=>?_
     clear dX;obtain ⟨d,hd⟩:=XP wr.drew;rw [hd] at ah ⊢;replace ax:Below wr.heap.size wr d:=hd ▸ Below.bz ax;clear hd;refine afV 0 ?_;refine ac' 4 ?_;refine ae' 5 10 (fun K hK=>?_) (fun K hK=>?_)
     case' refine_1 =>
      (go_simp;go_at_call 87;refine (HC.o _ ax).mono ?_;rintro en V1 ⟨_,_,_,_,rfl,ak,hb⟩;obtain ⟨⟨d0,WR,WS,rfl⟩,⟨d1,WT,WU,rfl⟩,⟨d2,WV,WW,rfl⟩,⟨d3,WX,WY,rfl⟩⟩:=ak.sl;have au:=ax.trans (hb.mono ax.size);have aB:=af (ak.mono (show wr.heap.size<=_ from ax.size));clear ak hb;have dn:=aF.o V1 au;go_wp2_with fail)
      refine afS hK fun ah=>?_
      clear hK K;refine afV 6 ?_;refine ahk 10 fun K hK=>?_
      (go_simp;obtain ⟨dD,hU⟩:∃ V,V1.alloc (.cells #[.slice none 0 0,.slice none 0 0,.slice none 0 0,.slice none 0 0] 28)=V:=⟨_,rfl⟩;have aA:=af (show BX dD V1.heap.size 28 [.slice none 0 0,.slice none 0 0,.slice none 0 0,.slice none 0 0] from hU ▸ BX.new V1 _ _);obtain ⟨g7,Fh⟩:∃ g,V1.heap.size=g:=⟨_,rfl⟩;have bI:wr.heap.size<=g7:=Fh ▸ au.size;have aG:=(show Below V1.heap.size V1 dD from hU ▸ dm);replace aB:=af (aB.o.below aG);have aQ:=au.trans (aG.mono au.size);have di:=aF.o dD aQ;rw [Fh] at aA ⊢;try rw [hU];clear hU Fh aG)
      refine afS hK fun ah=>?_
      clear hK K
     case' refine_2 =>
      (go_simp;obtain ⟨U,hU⟩:∃ V,d.alloc (.cells #[.slice none 0 0,.slice none 0 0,.slice none 0 0,.slice none 0 0] 28)=V:=⟨_,rfl⟩;have aA:=af (show BX U d.heap.size 28 [.slice none 0 0,.slice none 0 0,.slice none 0 0,.slice none 0 0] from hU ▸ BX.new d _ _);obtain ⟨g7,Fh⟩:∃ g,d.heap.size=g:=⟨_,rfl⟩;have bI:wr.heap.size<=g7:=Fh ▸ ax.size;have aG:=(show Below d.heap.size d U from hU ▸ dm);have au:=ax.trans (aG.mono ax.size);have dn:=aF.o U au;rw [Fh] at aA ⊢;try rw [hU];clear hU Fh aG)
      refine afS hK fun ah=>?_
      clear hK K;refine ahk 5 fun K hK=>?_
      (go_simp;go_at_call 87;refine (HC.o _ au).mono ?_;rintro en dD ⟨_,_,_,_,rfl,ak,hb⟩;obtain ⟨⟨d0,WR,WS,rfl⟩,⟨d1,WT,WU,rfl⟩,⟨d2,WV,WW,rfl⟩,⟨d3,WX,WY,rfl⟩⟩:=ak.sl;have aQ:=au.trans (hb.mono au.size);have aB:=af (ak.mono (show wr.heap.size<=_ from au.size));replace aA:=af (aA.o.below hb);clear ak hb;have di:=aF.o dD aQ;go_wp2_with fail)
      refine afS hK fun ah=>?_
      clear hK K;refine afV 6 ?_
     all_goals
      have p0:=aA.o.c4;have y0:=aA.o.f4;refine ahk 11 fun K hK=>?_
      (go_simp;obtain ⟨V,hV⟩:=XP (sets dD g7 0 [.slice d0 WR WS,.slice d1 WT WU,.slice d2 WV WW,.slice d3 WX WY]);have aZ:Below wr.heap.size wr V:=hV ▸ dP bI _ 0 aQ;have gK:=af (show BX V g7 28 [.slice d0 WR WS,.slice d1 WT WU,.slice d2 WV WW,.slice d3 WX WY] from hV ▸ aA.o.sets _ rfl);replace aB:=af (show KO V wr.heap.size (.slice d0 WR WS) (.slice d1 WT WU) (.slice d2 WV WW) (.slice d3 WX WY) r.1 from hV ▸ KO.sets aJ _ 0 aA.o aB.o);rw [afA dD,hV];have eF:=aF.o V aZ)
      refine afS hK fun ah=>?_
      clear hK K;refine afU 12 ?_;refine wpAnyH_done (by kernel_rfl) ?_ _;have H7:=af (H.o.call aZ aB.o Ky.o);have x0:=gK.o.c4;obtain ⟨r0,r1,r2,r3⟩:=(H.o.x6.below aZ).c4;obtain ⟨jh,ji,jk,jl⟩:=(H.o.x6.below aZ).f4;obtain ⟨V7,dE⟩:∃ U,sets V g6 0 [.slice d0 WR WS,.slice d1 WT WU,.slice d2 WV WW,.slice d3 WX WY]=U:=⟨_,rfl⟩;rw [dE] at H7;clear hV p0 y0 ah bI aQ au dn di eF aB aA ax aZ aF HC gK;go_upto_region 13 with fail;rw [afA V,dE];clear r0 r1 r2 r3 jh ji jk jl x0 dE H Q0 Q1 Q2 Q3 fG fH;have uf:=af (show w.heap.size<=V7.heap.size from H7.o.b.size)
      have HA:=af (H7.o.below ((Below.refl V7.heap.size V7).alloc aW (.cells #[I_ r.2.2] 3)));have bZ:=af (show q.2.length+1<=1099511627776 by have:=ik.o;omega);go_wp2_with (at_builtin;refine aV wK rfl _ _ rfl w.heap.size _ q.2 rfl (H7.o.o.os.alloc _) _ [(r.2.2:Int)] rfl (RS.one (f:=iR) (r.2.2:Int) #[I_ r.2.2] rfl _ _) bZ.o (by simp;exact Nat.le_succ_of_le uf.o) ?_;intro v7 w8 xE J5 aY;have H8:=af (HA.o.app xE J5 aY);clear xE J5 aY);go_roundw
      case rel=>exact ⟨j+1,_,_,_,_,_,by go_num,by omega,dC,H8⟩
      case measure=>simp [intOf];omega
   obtain rfl:j=cs.length:=by omega
   rw [List.take_length] at Hq;have iG:=af H.o.f;have p0:=H.o.x6.c4;obtain ⟨r0,r1,r2,r3⟩:=H.o.x4.c4;obtain ⟨jh,ji,jk,jl⟩:=H.o.x4.f4;go_wp2_with fail;obtain ⟨F,hF⟩:=XP (sets wr g4 0 [.slice b0 q0 z0,.slice b1 q1 z1,.slice b2 q2 z2,.slice b3 q3 z3]);rw [afA wr,hF];have BF:Below w.heap.size w F:=hF ▸ dP H.o.h.1 _ 0 H.o.b;have dB:BX F g4 28 [.slice b0 q0 z0,.slice b1 q1 z1,.slice b2 q2 z2,.slice b3 q3 z3]:=hF ▸ H.o.x4.sets _ rfl;have fJ:RK F (.slice b0 q0 z0) (.slice b1 q1 z1) (.slice b2 q2 z2) (.slice b3 q3 z3) q.1:=by
    obtain ⟨base,hi,h0,h1,h2,h3,hk⟩:=iG.o;exact hk F (by rw [<-hF,kD];exact Nat.le_refl _) (fun j a _=>hF ▸ gp g4 _ (by omega) _ _)
   have CF:OI F w.heap.size u6 q.2:=(hF ▸ OS.sets (by decide) _ 0 H.o.x4 H.o.o.os:OS iR 1 3 F w.heap.size u6 q.2).oi;obtain ⟨e0,e1,e2,e3⟩:=dB.c4;refine af7 (by simp [results,results24,go_sem,e0,e1,e2,e3]<;>rfl) ?_;rw [HF.o,Hq.o];exact ⟨_,_,_,_,_,rfl,fJ,CF.ri,BF⟩
theorem aj (k:Kx.Kernel) (cs:List Kx.Call) (vm vi ve vc vl:Value) (w:World) (h:RK w vm vi ve vc k) (hs:iQ k) (hl:Zj w vl cs) (dh:∀ c ∈ cs,c.name.size<=9223372036854775807/\c.c<=9223372036854775807) :
  Calls prog 23 #[.agg #[vm,vi,ve,vc],vl] w (rq w (QI k cs)):=by
 obtain ⟨al,cl,rfl,_,_⟩:=RS.val hl;obtain ⟨⟨am,nm,cm,rfl⟩,⟨ai,ni,ci,rfl⟩,⟨ae,ne,ce,rfl⟩,⟨ac,nc,cq,rfl⟩⟩:=h.slc;obtain ⟨w0,bW⟩:=XP (w.alloc (.cells #[.slice am nm cm,.slice ai ni ci,.slice ae ne ce,.slice ac nc cq] 28));obtain ⟨w1,aU⟩:=XP (w0.alloc (.cells #[.slice none 0 0,.slice none 0 0,.slice none 0 0,.slice none 0 0] 28));have B0:Below w.heap.size w w0:=bW ▸ dm;have B1:Below w0.heap.size w0 w1:=aU ▸ dm;have s0:w.heap.size<w0.heap.size:=by rw [<-bW];simp
 have s1:w0.heap.size<w1.heap.size:=by rw [<-aU];simp
 have Bw:=af (show Below w.heap.size w w1 from B0.trans (B1.mono B0.size));have X0:=af (show BX w1 w.heap.size 28 [.slice am nm cm,.slice ai ni ci,.slice ae ne ce,.slice ac nc cq] from (bW ▸ BX.new w _ _:BX w0 _ _ _).below B1);have X2:=af (show BX w1 w0.heap.size 28 [.slice none 0 0,.slice none 0 0,.slice none 0 0,.slice none 0 0] from (aU ▸ BX.new w0 _ _:BX w1 _ _ _));have bD:=af (show OI w1 w.heap.size (.slice none 0 0) [] from OI.nil _ _);have HR:=af (show RK w _ _ _ _ k from h);have HL:=af hl;have HS:=af hs;have cZ:=af dh;have HV:=af (mX k _ _ _ _ w1 (HR.o.below Bw.o) hs);have HK:=af (show QI k cs=if !az k then (Kx.Kernel.zero,[]) else cs.foldl Kx.uK (k,[]) from rfl);clear h hs hl dh B0 B1;go_enter func23,ntmps23;have p0:=X0.o.c4;go_wp2_with fail;clear bW aU
 refine HV.o.mono ?_;rintro en w3 ⟨rfl,hb⟩;clear HV p0;replace X0:=af (X0.o.below hb);replace X2:=af (X2.o.below hb);replace bD:=af (bD.o.below hb);have dA:=af (show w1.heap.size<=w3.heap.size from hb.size);replace Bw:=af (Bw.o.trans (hb.mono Bw.o.size));have p0:=X0.o.c4;clear hb
 cases aI:az k with
 | false =>
  have HF:=af (show QI k cs=(Kx.Kernel.zero,[]) by rw [HK.o,aI];rfl);clear aI;obtain ⟨r0,r1,r2,r3⟩:=X2.o.c4;obtain ⟨jh,ji,jk,jl⟩:=X2.o.f4;go_wp2_with fail;obtain ⟨F,hF⟩:=XP (sets w3 w0.heap.size 0 [.slice none 0 0,.slice none 0 0,.slice none 0 0,.slice none 0 0]);rw [afA w3,hF];have BF:Below w.heap.size w F:=hF ▸ dP (by omega) _ 0 Bw.o;have dB:BX F w0.heap.size 28 [.slice none 0 0,.slice none 0 0,.slice none 0 0,.slice none 0 0]:=hF ▸ X2.o.sets _ rfl;obtain ⟨e0,e1,e2,e3⟩:=dB.c4
  refine af7 (by simp [results,results23,go_sem,e0,e1,e2,e3]<;>rfl) ?_;rw [HF.o];exact ⟨_,_,_,_,_,_,rfl,Nat.le_refl _,KO.zero _ _,OI.nil _ _,fun b hb=>by simp [Value.ownBlock] at hb,BF⟩
 | true =>
  have HF:=af (show QI k cs=cs.foldl Kx.uK (k,[]) by rw [HK.o,aI];rfl);have dV:=af (ad2 k _ _ _ _ w3 (HR.o.below Bw.o));go_wp2_with fail;refine dV.o.mono ?_;rintro en w4 ⟨um,ui,ue,uc,rfl,ak,hb⟩;clear dV p0 HK;obtain ⟨⟨a0,n0,m0,rfl⟩,⟨a1,n1,m1,rfl⟩,⟨a2,n2,m2,rfl⟩,⟨a3,n3,m3,rfl⟩⟩:=ak.sl;obtain ⟨w5,aX⟩:∃ V,w4.alloc (.cells #[.slice a0 n0 m0,.slice a1 n1 m1,.slice a2 n2 m2,.slice a3 n3 m3] 28)=V:=⟨_,rfl⟩;have B5:Below w4.heap.size w4 w5:=aX ▸ dm;have bU:=hb.trans (B5.mono hb.size);have YJ:=hb.size;have H:=af (show lm w w5 w0.heap.size w4.heap.size k (.slice a0 n0 m0) (.slice a1 n1 m1) (.slice a2 n2 m2) (.slice a3 n3 m3) (.slice none 0 0) [] from
   ⟨Bw.o.trans (bU.mono Bw.o.size),X2.o.below bU,aX ▸ BX.new w4 _ _,
    ⟨w3.heap.size,w4.heap.size,by have:=dA.o;omega,.inr aW,B5.size,fun b hb'=>.inl (bD.o.lt b hb').2,ak.fF.to B5.size (fun j _ h2=>B5.block j h2)⟩,bD.o.below bU,aI,ak.sl,by have:=dA.o;omega⟩)
  obtain ⟨g6,OT⟩:∃ g,w4.heap.size=g:=⟨_,rfl⟩;rw [OT] at H;clear ak hb B5 bU X0 X2 bD aI YJ dA Bw;go_wp2_with fail
  try rw [aX]
  try rw [OT]
  clear aX OT;obtain ⟨g4,dZ⟩:∃ g,w0.heap.size=g:=⟨_,rfl⟩
  try rw [dZ] at H ⊢
  clear dZ s0 s1;go_loopw [7,19] (fun v i wr=>∃ (j:Nat) (q:Kx.Kernel×List Int) (u0 u1 u2 u3:Value),i=I_ j/\j<=cs.length/\TI ((cs.take j).foldl Kx.uK (k,[])=q)/\TI (lm w wr g4 g6 q.1 u0 u1 u2 u3 v q.2)) (fun _ i _=>cs.length - (intOf i).toNat)
  case atStart=>exact ⟨0,(k,[]),_,_,_,_,rfl,Nat.zero_le _,rfl,H⟩
  case round =>
   clear H;obtain ⟨j,q,u0,u1,u2,u3,rfl,hj,Hq,H⟩:=hrel;have ik:=af (show q.2.length=j by have:=Kx.bi (cs.take j) k [];rw [Hq.o] at this;simp at this;omega);have iF:cs.length<=1099511627776:=HL.o.1;obtain ⟨⟨b0,q0,z0,rfl⟩,⟨b1,q1,z1,rfl⟩,⟨b2,q2,z2,rfl⟩,⟨b3,q3,z3,rfl⟩⟩:=H.o.sl
   by_cases bT:j<cs.length
   ·obtain ⟨bl,ol,xl,el,gJ,hq⟩:=RS.at (RS.below HL.o H.o.b) bT;obtain ⟨rfl,_,rfl⟩:=Za el;clear el;have kQ:(j:Int)<(cs.length:Int):=by omega
    have dL:=af (cZ.o cs[j] (List.getElem_mem bT));have HT:=af (show (cs.take (j+1)).foldl Kx.uK (k,[])=Kx.uK q cs[j] by rw [Kx.gm cs k bT,Hq.o]);generalize cs[j]=c at hq HT dL;obtain ⟨bQ,JF,ca,cb,cc,bg⟩:=c;have q0:wr.cell? ⟨bl,ol+j*6,none⟩=some (I_ bQ):=hq 0 _ rfl;have q1:wr.cell? ⟨bl,ol+j*6+1,none⟩=some (I_ JF):=hq 1 _ rfl;have q2:wr.cell? ⟨bl,ol+j*6+2,none⟩=some (I_ ca):=hq 2 _ rfl;have q3:wr.cell? ⟨bl,ol+j*6+3,none⟩=some (I_ cb):=hq 3 _ rfl;have q4:wr.cell? ⟨bl,ol+j*6+4,none⟩=some (I_ cc):=hq 4 _ rfl;have q5:wr.cell? ⟨bl,ol+j*6+5,none⟩=some (.string bg):=hq 5 _ rfl;clear hq;obtain ⟨w6,bY⟩:∃ V,wr.alloc (.cells #[I_ bQ,I_ JF,I_ ca,I_ cb,I_ cc,.string bg] 59)=V:=⟨_,rfl⟩;have B6:Below wr.heap.size wr w6:=bY ▸ dm
    have X9:=af (show BX w6 wr.heap.size 59 [I_ bQ,I_ JF,I_ ca,I_ cb,I_ cc,.string bg] from bY ▸ BX.new wr _ _);have H6:=af (H.o.below B6);have c0:=X9.o.c6;clear B6;go_wp2_with fail
    try rw [bY]
    refine (BR _ _).mono ?_;rintro en w9 ⟨rfl,rfl⟩;clear bY H q0 q1 q2 q3 q4 q5
    cases bC:Kx.bK JF 0 2 with
    | false =>
     have dC:=af (show (cs.take (j+1)).foldl Kx.uK (k,[])=(q.1,q.2 ++ [5]) by rw [HT.o];unfold Kx.uK;simp only [bC];rfl);clear bC HT c0;have uf:=af (show w.heap.size<=w6.heap.size from H6.o.b.size);have HA:=af (H6.o.below ((Below.refl w6.heap.size w6).alloc aW (.cells #[I_ 5] 3)));have bZ:=af (show q.2.length+1<=1099511627776 by have:=ik.o;omega);go_wp2_with (at_builtin;refine aV wK rfl _ _ rfl w.heap.size _ q.2 rfl (H6.o.o.os.alloc _) _ [(5:Int)] rfl (RS.one (f:=iR) (5:Int) #[I_ 5] rfl _ _) bZ.o (by simp;exact Nat.le_succ_of_le uf.o) ?_;intro v7 w8 xE J5 aY;have H8:=af (HA.o.app xE J5 aY);clear xE J5 aY);go_roundw
     case rel=>exact ⟨j+1,_,_,_,_,_,by go_num,by omega,dC,H8⟩
     case measure=>simp [intOf];omega
    | true =>
     obtain ⟨ed,fQ⟩:=Kx.ay.1 bC;obtain ⟨e,rfl⟩:=Int.eq_ofNat_of_zero_le ed;obtain ⟨r,hr⟩:=XP (Kx.cO q.1 ⟨bQ,(e:Int),ca,cb,cc,bg⟩);have dC:=af (show (cs.take (j+1)).foldl Kx.uK (k,[])=(r.1,q.2 ++ [r.2.2]) by rw [HT.o];unfold Kx.uK;simp only [bC,hr];rfl);have Ky:=af (show az r.1=true from hr ▸ nN.2 ((nN.1 H6.o.ok).cO _ bC));have HC:=af (hr ▸ ado q.1 ⟨bQ,(e:Int),ca,cb,cc,bg⟩ e _ _ _ _ w6 H6.o.rk H6.o.ok (jX H6.o.ok) rfl (by omega) dL.o.1 dL.o.2);unfold dW at HC;clear bC hr ed fQ HT;have p0:=H6.o.x6.c4;go_wp2_with fail;refine HC.o.mono ?_;rintro en w7 ⟨_,_,_,_,rfl,ak,hb⟩;clear HC p0 c0;obtain ⟨⟨d0,WR,WS,rfl⟩,⟨d1,WT,WU,rfl⟩,⟨d2,WV,WW,rfl⟩,⟨d3,WX,WY,rfl⟩⟩:=ak.sl;have H7:=af (H6.o.call hb ak Ky.o)
     obtain ⟨r0,r1,r2,r3⟩:=(H6.o.x6.below hb).c4;obtain ⟨jh,ji,jk,jl⟩:=(H6.o.x6.below hb).f4;obtain ⟨V7,dE⟩:=XP (sets w7 g6 0 [.slice d0 WR WS,.slice d1 WT WU,.slice d2 WV WW,.slice d3 WX WY]);rw [dE] at H7;clear ak hb H6 X9;go_upto_region 11 with fail;rw [afA w7,dE];clear r0 r1 r2 r3 jh ji jk jl dE;have uf:=af (show w.heap.size<=V7.heap.size from H7.o.b.size);have HA:=af (H7.o.below ((Below.refl V7.heap.size V7).alloc aW (.cells #[I_ r.2.2] 3)));have bZ:=af (show q.2.length+1<=1099511627776 by have:=ik.o;omega)
     go_wp2_with (at_builtin;refine aV wK rfl _ _ rfl w.heap.size _ q.2 rfl (H7.o.o.os.alloc _) _ [(r.2.2:Int)] rfl (RS.one (f:=iR) (r.2.2:Int) #[I_ r.2.2] rfl _ _) bZ.o (by simp;exact Nat.le_succ_of_le uf.o) ?_;intro v7 w8 xE J5 aY;have H8:=af (HA.o.app xE J5 aY);clear xE J5 aY);go_roundw
     case rel=>exact ⟨j+1,_,_,_,_,_,by go_num,by omega,dC,H8⟩
     case measure=>simp [intOf];omega
   obtain rfl:j=cs.length:=by omega
   rw [List.take_length] at Hq;have HO:=af (ad2 q.1 _ _ _ _ wr H.o.rk);have p0:=H.o.x6.c4;go_wp2_with fail;refine HO.o.mono ?_;rintro en w7 ⟨_,_,_,_,rfl,ak,hb⟩;obtain ⟨⟨d0,WR,WS,rfl⟩,⟨d1,WT,WU,rfl⟩,⟨d2,WV,WW,rfl⟩,⟨d3,WX,WY,rfl⟩⟩:=ak.sl;have H7:=af (H.o.below hb);have aB:=af ak;have uf:=af H.o.b.size;have Js:=af (fun b hb=>(H.o.o.lt b hb).2)
   clear ak hb HO p0 H;obtain ⟨r0,r1,r2,r3⟩:=H7.o.x4.c4;obtain ⟨jh,ji,jk,jl⟩:=H7.o.x4.f4;go_wp2_with fail;obtain ⟨F,hF⟩:=XP (sets w7 g4 0 [.slice d0 WR WS,.slice d1 WT WU,.slice d2 WV WW,.slice d3 WX WY]);rw [afA w7,hF];have BF:Below w.heap.size w F:=hF ▸ dP H7.o.h.1 _ 0 H7.o.b;have dB:BX F g4 28 [.slice d0 WR WS,.slice d1 WT WU,.slice d2 WV WW,.slice d3 WX WY]:=hF ▸ H7.o.x4.sets _ rfl;have fJ:KO F wr.heap.size (.slice d0 WR WS) (.slice d1 WT WU) (.slice d2 WV WW) (.slice d3 WX WY) q.1:=hF ▸ KO.sets aJ _ 0 H7.o.x4 aB.o;have CF:OI F w.heap.size u7 q.2:=(hF ▸ OS.sets (by decide) _ 0 H7.o.x4 H7.o.o.os:OS iR 1 3 F w.heap.size u7 q.2).oi
   obtain ⟨e0,e1,e2,e3⟩:=dB.c4;refine af7 (by simp [results,results23,go_sem,e0,e1,e2,e3]<;>rfl) ?_;rw [HF.o,Hq.o];exact ⟨_,_,_,_,_,_,rfl,uf.o,fJ,CF,Js.o,BF⟩
theorem lg {α:Type} {f:α->List Value} {sz:Nat} (hf:∀ x,(f x).length=sz) (j:Nat) (u:Value) (hj:j<sz):∀ (l:List α) (k:Nat) (x:α) (hk:k<l.length),f x=(f l[k]).set j u->flat f (l.set k x)=(flat f l).set (k*sz+j) u
 | [],_,_,h,_=>by simp at h
 | y :: l,0,x,_,h=>by
  unfold flat;simp only [List.set_cons_zero,List.flatMap_cons,List.getElem_cons_zero] at h ⊢;rw [h,Nat.zero_mul,Nat.zero_add,List.set_append_left _ _ (by rw [hf];exact hj)]
 | y :: l,k+1,x,hk,h=>by
  have:=lg hf j u hj l k x (by simpa using hk) (by simpa using h)
  unfold flat at this ⊢;simp only [List.set_cons_succ,List.flatMap_cons];rw [this,List.set_append_right _ _ (by rw [hf,Nat.succ_mul];omega),hf];congr 2;rw [Nat.succ_mul];omega
theorem OS.dF {α:Type} {f:α->List Value} {sz:Nat} [E:IV f sz] {e:TypeId} {w:World} {base g n cap:Nat} {l:List α} (h:OS f sz e w base (.slice (some ⟨g,0,none⟩) n cap) l) (hn:l.length=n) (k:Nat) (hk:k<l.length) (j:Nat) (hj:j<sz) (u:Value) (x:α) (hx:f x=(f l[k]).set j u) :
  OS f sz e (w.setCell ⟨g,k*sz+j,none⟩ u) base (.slice (some ⟨g,0,none⟩) n cap) (l.set k x):=by
 subst hn;have h2:=(h.1.stored (k*sz+j) u).1;refine ⟨?_,by simpa using h.2⟩;rw [lg E.len j u hj l k x hk hx,List.length_set];exact h2
section
variable {w W V:World} {rb q q' g2 g5:Nat} {k:Kx.Kernel} {v0 v1 v2 v3 v v':Value} {l:List Kx.Call}
theorem LD.later {row:Option Nat} (h:LD w W rb q g2 g5 k v0 v1 v2 v3) (hg:W.grownBy V row) (hr:∀ b,row=some b->g5<b):LD w V rb q g2 g5 k v0 v1 v2 v3:=by
 obtain ⟨base,hi,h2,h3,h4,hk⟩:=h.f;have hh:=h.h;exact ⟨h.b.grown hg h.b.size (fun b hb=>by have:=hr b hb;omega),h.r.grown hg (fun b hb=>by have:=hr b hb;omega),(hg.block g2 h.x2.lt (fun e=>by have:=hr _ e.symm;omega)).trans h.x2,(hg.block g5 h.x5.lt (fun e=>by have:=hr _ e.symm;omega)).trans h.x5,
  ⟨base,hi,h2,h3,Nat.le_trans h4 hg.size,hk.to hg.size (fun j a b=>hg.block j (by omega) (fun e=>by have:=hr _ e.symm;omega))⟩,h.s,h.h⟩
structure mg (w W:World) (rb q g2 g5:Nat) (k:Kx.Kernel) (v0 v1 v2 v3 v:Value) (l:List Kx.Call):Prop where
 d:LD w W rb q g2 g5 k v0 v1 v2 v3
 n12:k.ag.length=12
 o:OS Lc 6 59 W (g5+1) v l
 c:∀ c ∈ l,c.name.size<=9223372036854775807/\c.c<=9223372036854775807
 s:∃ g c,v=.slice (some ⟨g,0,none⟩) l.length c
theorem mg.pick (h:mg w W rb q g2 g5 k v0 v1 v2 v3 v l) (hr:RD V rb q') (hg:W.grownBy V (some rb)):mg w V rb q' g2 g5 k v0 v1 v2 v3 v l:=
 ⟨h.d.pick hr hg,h.n12,h.o.kept hg (by
  cases hv:v.ownBlock with
  | none=>exact .inl rfl
  | some b=>refine .inr fun e=>?_;have:=(h.o.lt b hv).1;have:=h.d.h;simp at e;omega),h.c,h.s⟩
theorem mg.below (h:mg w W rb q g2 g5 k v0 v1 v2 v3 v l) (hb:Below W.heap.size W V):mg w V rb q g2 g5 k v0 v1 v2 v3 v l:=
 h.pick (h.d.r.keep hb) (grown_below hb ⟨hb.os,hb.tape,hb.output⟩)
theorem mg.app {c:Kx.Call} (h:mg w W rb q g2 g5 k v0 v1 v2 v3 v l) (ho:OS Lc 6 59 V (g5+1) v' (l ++ [c])) (hg:W.grownBy V v.ownBlock) (hc:c.name.size<=9223372036854775807/\c.c<=9223372036854775807):mg w V rb q g2 g5 k v0 v1 v2 v3 v' (l ++ [c]):=
 ⟨h.d.later hg (fun b hb=>by have:=(h.o.lt b hb).1;omega),h.n12,ho,fun x hx=>by
  rcases List.mem_append.1 hx with h1 | h1
  ·exact h.c x h1
  rw [List.mem_singleton.1 h1];exact hc,by obtain ⟨g,c',e,_⟩:=ho.shape (by simp);exact ⟨g,c',e⟩⟩
end
def ou (w:World) (en:Ending) (w':World):Prop:=∃ (k:Kx.Kernel) (cs:List Kx.Call) (um ui ue uc:Value) (bl cl:Nat),en=.returned (.tuple #[.agg #[um,ui,ue,uc],.slice (some ⟨bl,0,none⟩) cs.length cl])/\(Sl um/\Sl ui/\Sl ue/\Sl uc)/\iQ k/\Zj w' (.slice (some ⟨bl,0,none⟩) cs.length cl) cs/\(∀ c ∈ cs,c.name.size<=9223372036854775807/\c.c<=9223372036854775807)/\RK w' um ui ue uc k/\Below w.heap.size w w'
theorem sH:aaG 49 59 (.agg #[I_ 0,I_ 0,I_ 0,I_ 0,I_ 0,.string ⟨#[]⟩]) 6:=aaG.mk underlying49 (b:=56) (by kernel_rfl) (by decide) rfl
theorem bu (v:Value) (n:Nat) (w:World) (h:RB w v n):Calls prog 22 #[v] w (ou w):=by
 obtain ⟨w1,aU⟩:=XP (w.alloc (.cells #[.slice none 0 0,.slice none 0 0,.slice none 0 0,.slice none 0 0] 28));have B1:=af (show Below w.heap.size w w1 from aU ▸ dm);have s1:w.heap.size<w1.heap.size:=by rw [<-aU];simp
 have X2:=af (show BX w1 w.heap.size 28 [.slice none 0 0,.slice none 0 0,.slice none 0 0,.slice none 0 0] from (aU ▸ BX.new w _ _:BX w1 _ _ _));have HB:=af (h.below B1.o);clear h;go_enter func22,ntmps22;go_wp2_with fail;clear aU;refine (KR _ _ _ HB.o).mono ?_;rintro en w2 ⟨rb,rfl,hrb,hr,hb⟩;have jb:=hb.size;have B2:=af (B1.o.trans (hb.mono B1.o.size));have HX:=af (X2.o.below hb);have Hr:=af hr;have gy:=hr.lt;clear hr hb X2 HB B1;go_wp2_with fail;refine (JA rb 0 _ Hr.o (by omega)).mono ?_;rintro en w3 ⟨k,_,_,_,_,base,rfl,⟨⟨a0,n0,m0,rfl⟩,⟨a1,n1,m1,rfl⟩,⟨a2,n2,m2,rfl⟩,⟨a3,n3,m3,rfl⟩⟩,hs,iy,bJ,ak,q,hq,iC,hg⟩;have iZ:=hg.size;obtain ⟨w4,bM⟩:∃ V,w3.alloc (.cells #[.slice a0 n0 m0,.slice a1 n1 m1,.slice a2 n2 m2,.slice a3 n3 m3] 28)=V:=⟨_,rfl⟩;have B4:Below w3.heap.size w3 w4:=bM ▸ dm
 have Y2:BX w3 w.heap.size 28 [.slice none 0 0,.slice none 0 0,.slice none 0 0,.slice none 0 0]:=(hg.block w.heap.size HX.o.lt (by simp;omega)).trans HX.o;have B3:=B2.o.grown hg (show w.heap.size<=w2.heap.size by omega) (fun k hk=>by cases hk;omega);have HD:=af (show LD w w4 rb q w.heap.size w3.heap.size k (.slice a0 n0 m0) (.slice a1 n1 m1) (.slice a2 n2 m2) (.slice a3 n3 m3) from
  ⟨B3.trans (B4.mono B3.size),iC.keep B4,Y2.below B4,bM ▸ BX.new w3 _ _,⟨base,w3.heap.size,by omega,Nat.le_refl _,B4.size,ak.r.to B4.size (fun j _ b=>B4.block j b)⟩,hs,by omega⟩)
 have s4:w3.heap.size<w4.heap.size:=by rw [<-bM];simp
 obtain ⟨w5,aX⟩:∃ V,w4.alloc (.cells #[] 59)=V:=⟨_,rfl⟩;have B5:Below w4.heap.size w4 w5:=aX ▸ dm;have H:=af (show mg w w5 rb q w.heap.size w3.heap.size k (.slice a0 n0 m0) (.slice a1 n1 m1) (.slice a2 n2 m2) (.slice a3 n3 m3) (.slice (some ⟨w4.heap.size,0,none⟩) 0 0) [] from
  ⟨HD.o.below B5,iy,aX ▸ OS.d_ (by omega),fun c hc=>absurd hc (by simp),_,_,rfl⟩)
 obtain ⟨g5,fU⟩:∃ g,w3.heap.size=g:=⟨_,rfl⟩;rw [fU] at H;clear hs ak iC hg B3 B4 B5 Y2 bJ HX B2 Hr HD iy s4;go_wp2_with fail
 try rw [bM]
 try rw [aX]
 try rw [fU]
 clear bM fU;refine (aN rb _ 10 _ H.o.d.r (by omega) (by omega) (by omega)).mono ?_;rintro en w6 ⟨x,rfl,x0,x1,hr,hg⟩;obtain ⟨n,rfl⟩:=Int.eq_ofNat_of_zero_le x0;replace H:=af (H.o.pick hr hg);clear hr hg aX;go_wp2_with fail;go_loopw [6,8] (fun v i wr=>∃ (j q:Nat) (l:List Kx.Call),i=I_ j/\j<=n/\q<=1300+30*j/\l.length=j/\TI (mg w wr rb q w.heap.size g5 k (.slice a0 n0 m0) (.slice a1 n1 m1) (.slice a2 n2 m2) (.slice a3 n3 m3) v l)) (fun _ i _=>n - (intOf i).toNat)
 case atStart=>exact ⟨0,_,[],rfl,Nat.zero_le _,by omega,rfl,H⟩
 case round =>
  clear H;obtain ⟨j,q,l,rfl,hj,hq,hl,H⟩:=hrel;have Hl:=af hl;clear hl
  by_cases bT:j<n
  ·have kQ:(j:Int)<(n:Int):=by omega
   have p0:=H.o.d.x5.c4;go_wp2_with fail;clear p0;refine (Ij rb _ k.ag _ _ _ _ _ H.o.d.r (by omega) H.o.d.ag H.o.n12).mono ?_;rintro en w7 ⟨c,e,rfl,-,-,ig,iD,q1,hq1,hr,hg⟩;have Hc:=af (show c.name.size<=9223372036854775807/\c.c<=9223372036854775807 from ⟨Nat.le_trans ig (by decide),iD⟩);obtain ⟨bQ,JF,ca,cb,cc,bg⟩:=c;unfold dW;replace H:=af (H.o.pick hr hg);have HA:=af (H.o.below ((Below.refl w7.heap.size w7).alloc aW (.cells #[I_ bQ,I_ JF,I_ ca,I_ cb,I_ cc,.string bg] 59)));have bZ:=af (show l.length+1<=1099511627776 by have:=Hl.o;omega);have uf:=af (show g5+1<=w7.heap.size from H.o.d.x5.lt);clear hr hg ig iD
   go_wp2_with (at_builtin;refine aV sH rfl _ _ rfl (g5+1) _ l rfl (H.o.o.alloc _) _ [⟨bQ,JF,ca,cb,cc,bg⟩] rfl (RS.one (f:=Lc) ⟨bQ,JF,ca,cb,cc,bg⟩ #[I_ bQ,I_ JF,I_ ca,I_ cb,I_ cc,.string bg] rfl _ _) bZ.o (by rw [World.size_alloc];exact Nat.le_succ_of_le uf.o) ?_;intro v7 w8 xE J5 aY;have H8:=af (HA.o.app xE J5 Hc.o);clear xE J5 aY);go_roundw
   case rel=>exact ⟨j+1,_,_,by go_num,by omega,by omega,by simp [Hl.o],H8⟩
   case measure=>simp [intOf];omega
  obtain rfl:j=n:=by omega
  have eG:∀ (V:World) (v':Value) (l':List Kx.Call) (q':Nat),mg w V rb q' w.heap.size g5 k (.slice a0 n0 m0) (.slice a1 n1 m1) (.slice a2 n2 m2) (.slice a3 n3 m3) v' l'->ou w (.returned (.tuple #[.agg #[.slice a0 n0 m0,.slice a1 n1 m1,.slice a2 n2 m2,.slice a3 n3 m3],v'])) (sets V w.heap.size 0 [.slice a0 n0 m0,.slice a1 n1 m1,.slice a2 n2 m2,.slice a3 n3 m3]):=fun V v' l' q' hV=>by
   obtain ⟨f1,f2,f3,_⟩:=hV.d.fin;obtain ⟨bl,cl,hv⟩:=hV.s;have ho:=hV.o;rw [hv] at ho ⊢;exact ⟨k,l',_,_,_,_,bl,cl,rfl,⟨⟨_,_,_,rfl⟩,⟨_,_,_,rfl⟩,⟨_,_,_,rfl⟩,⟨_,_,_,rfl⟩⟩,hV.d.s,(OS.sets (by decide) _ 0 hV.d.x2 ho).rs,hV.c,f3,f1⟩
  have Ws:=af eG;clear eG
  by_cases hn:j=0
  ·subst hn;have c0:=H.o.d.x5.c4;have r0:=H.o.d.x2.c4;have jh:=H.o.d.x2.f4;have aP:=af (Ws.o _ _ _ _ H.o);obtain ⟨e0,e1,e2,e3⟩:=H.o.d.fin.2.1.c4;go_wp2_with fail;obtain ⟨F,hF⟩:=XP (sets wr w.heap.size 0 [.slice a0 n0 m0,.slice a1 n1 m1,.slice a2 n2 m2,.slice a3 n3 m3]);rw [afA wr,hF];rw [hF] at aP e0 e1 e2 e3;refine af7 (by simp [results,results22,go_sem,e0,e1,e2,e3]<;>rfl) ?_;exact aP.o
  have MJ:(0:Int)<(j:Int):=by omega
  go_wp2_with fail;refine (aN rb _ 12 _ H.o.d.r (by omega) (by omega) (by omega)).mono ?_;rintro en w7 ⟨x,rfl,x0,x1,hr,hg⟩;replace H:=af (H.o.pick hr hg);clear hr hg
  by_cases hx:x=0
  ·subst hx;go_wp2_with fail;refine (aN rb _ (j:Int) _ H.o.d.r (by omega) (by omega) (by omega)).mono ?_;rintro en w8 ⟨y,rfl,y0,y1,hr,hg⟩;replace H:=af (H.o.pick hr hg);clear hr hg;obtain ⟨y,rfl⟩:=Int.eq_ofNat_of_zero_le y0;have dS:=af (show y<l.length by have:=Hl.o;omega);have iU:(y:Int)<(j:Int):=by omega
   obtain ⟨g,cp,e,hge,hgl⟩:=H.o.o.shape (by have:=dS.o;omega);rw [Hl.o] at e;subst e;obtain ⟨⟨z,hz⟩,hf⟩:=H.o.o.bP y dS.o 1 (by decide);have aS:=af (show mg w (w8.setCell ⟨g,y*6+1,none⟩ (I_ 3)) rb _ w.heap.size g5 k (.slice a0 n0 m0) (.slice a1 n1 m1) (.slice a2 n2 m2) (.slice a3 n3 m3) (.slice (some ⟨g,0,none⟩) j cp) (l.set y { l[y]'dS.o with env:=3 }) from
    ⟨H.o.d.later (aK w8 g _ _) (fun b hb=>by cases hb;omega),H.o.n12,H.o.o.dF Hl.o y dS.o 1 (by decide) _ _ rfl,fun c hc=>by
     rcases List.mem_or_eq_of_mem_set hc with h1 | rfl
     ·exact H.o.c c h1
     exact H.o.c (l[y]'dS.o) (List.getElem_mem dS.o),g,cp,by rw [List.length_set,Hl.o]⟩)
   obtain ⟨wf,gG⟩:∃ V,w8.setCell ⟨g,y*6+1,none⟩ (I_ 3)=V:=⟨_,rfl⟩;rw [gG] at aS;go_upto_region 11 with fail
   try rw [gG]
   clear hz hf gG;have c0:=aS.o.d.x5.c4;have r0:=aS.o.d.x2.c4;have jh:=aS.o.d.x2.f4;have aP:=af (Ws.o _ _ _ _ aS.o);obtain ⟨e0,e1,e2,e3⟩:=aS.o.d.fin.2.1.c4;go_wp2_with fail;obtain ⟨F,hF⟩:=XP (sets wf w.heap.size 0 [.slice a0 n0 m0,.slice a1 n1 m1,.slice a2 n2 m2,.slice a3 n3 m3]);rw [afA wf,hF];rw [hF] at aP e0 e1 e2 e3;refine af7 (by simp [results,results22,go_sem,e0,e1,e2,e3]<;>rfl) ?_;exact aP.o
  have iY:(x==0)=false:=by simpa using hx
  have c0:=H.o.d.x5.c4;have r0:=H.o.d.x2.c4;have jh:=H.o.d.x2.f4;have aP:=af (Ws.o _ _ _ _ H.o);obtain ⟨e0,e1,e2,e3⟩:=H.o.d.fin.2.1.c4;go_wp2_with fail;obtain ⟨F,hF⟩:=XP (sets w7 w.heap.size 0 [.slice a0 n0 m0,.slice a1 n1 m1,.slice a2 n2 m2,.slice a3 n3 m3]);rw [afA w7,hF];rw [hF] at aP e0 e1 e2 e3;refine af7 (by simp [results,results22,go_sem,e0,e1,e2,e3]<;>rfl) ?_;exact aP.o
end Go.Proofs.YthcmmoibpgcgaaaGreatDoor
namespace Kx
theorem cu:∀ (cs:List Call) (k:Kernel) (l:List Int),cs.foldl uK (k,l)=((cs.foldl uK (k,[])).1,l ++ (cs.foldl uK (k,[])).2)
 | [],k,l=>by simp
 | c :: cs,k,l=>by
  rw [List.foldl_cons,List.foldl_cons,bf,bf,cu cs _ (l ++ _),cu cs _ ([] ++ _)];simp
theorem o9 (a b:List Call) (k:Kernel):(a ++ b).foldl uK (k,[])=((b.foldl uK ((a.foldl uK (k,[])).1,[])).1,(a.foldl uK (k,[])).2 ++ (b.foldl uK ((a.foldl uK (k,[])).1,[])).2):=by
 rw [List.foldl_append];exact cu b _ _
end Kx
namespace Go.Proofs.YthcmmoibpgcgaaaGreatDoor
open Go.RowKit Kx

structure uq (w W:World) (gk go gw:Nat) (k:Kx.Kernel) (r:Kx.Kernel×List Int) (cs:List Kx.Call) (vl vo vt a0 a1 a2 a3 b0 b1 b2 b3 d0 d1 d2 d3:Value):Prop where
 b:Below w.heap.size w W
 dM:BX W gk 28 [a0,a1,a2,a3]
 rk:RK W a0 a1 a2 a3 k
 rl:Zj W vl cs
 xo:BX W go 28 [b0,b1,b2,b3]
 ro:RK W b0 b1 b2 b3 r.1
 co:RI W vo r.2
 xw:BX W gw 28 [d0,d1,d2,d3]
 rw:RK W d0 d1 d2 d3 r.1
 cw:RI W vt r.2
theorem uq.go {w W V:World} {gk go gw:Nat} {k:Kx.Kernel} {r:Kx.Kernel×List Int} {cs:List Kx.Call} {vl vo vt a0 a1 a2 a3 b0 b1 b2 b3 d0 d1 d2 d3:Value} (h:uq w W gk go gw k r cs vl vo vt a0 a1 a2 a3 b0 b1 b2 b3 d0 d1 d2 d3) (hb:Below W.heap.size W V):uq w V gk go gw k r cs vl vo vt a0 a1 a2 a3 b0 b1 b2 b3 d0 d1 d2 d3:=
 ⟨h.b.trans (hb.mono h.b.size),h.dM.below hb,h.rk.below hb,RS.below h.rl hb,h.xo.below hb,h.ro.below hb,h.co.below hb,h.xw.below hb,h.rw.below hb,h.cw.below hb⟩
theorem rf {α:Type} {f:α->List Value} {sz:Nat} {w:World} {b off n cap:Nat} {l:List α} (h:RS f sz w (.slice (some ⟨b,off,none⟩) n cap) l) (k:Nat) (hk:k<=n):RS f sz w (.slice (some ⟨b,off+k*sz,none⟩) (n - k) (cap - k)) (l.drop k):=by
 by_cases he:k<n
 ·exact RS.drop h k he
 obtain ⟨rfl,h1,h2⟩:=RS.len h rfl;obtain rfl:k=l.length:=by omega
 rw [List.drop_length,Nat.sub_self];exact ⟨by simp,.inl ⟨rfl,_,_,rfl,Nat.le_trans (Nat.sub_le _ _) h2,fun e=>by cases e⟩⟩
theorem eu {ops:Array Oper} {rest:List Oper} {o:Oper} {a:Act} {Q:Exit->Act->World->Prop} {w:World} (hw:Region.wanted o (yielded ops a.tmps)=true) (s x:Operand)
  (ho:o.op=.call { callee:=.builtin .append,args:=#[s,x],argTypes:=#[29,29] })
  (base:Nat) (v:Value) (xs:List Int) (hs:a.eval s=v) (hown:OS iR 1 3 w base v xs) (u:Value) (ys:List Int) (hx:a.eval x=u) (hr:RS iR 1 w u ys)
  (hlen:xs.length+ys.length<=1099511627776) (bJ:base<=w.heap.size)
  (h:∀ v' w',OS iR 1 3 w' base v' (xs ++ ys)->w.grownBy w' v.ownBlock->wpList prog ops Q rest (a.put o.dst v') w'):wpList prog ops Q (o :: rest) a w:=
 wpList_step fun _ hK=>by rw [if_pos hw];exact xP wK s x ho base v xs hs hown u ys hx hr hlen bJ fun v' w' h2 h3 _=>hK _ _ (h v' w' h2 h3)
theorem FnKernelPlaySplit_c (a:Option Addr) (len0 cap0:Nat) (z0:List Int) (b:Option Addr) (len1 cap1:Nat) (z1:List Int) (w:World) (h0:abT .u8 w a len0 cap0 z0) (gu:abT .u8 w b len1 cap1 z1) :
  Calls prog 7 #[.slice a len0 cap0,.slice b len1 cap1] w (aez w):=by
 by_cases hl0:len0<=1048576
 ·have iE:¬ (1048576:Int)<(len0:Int):=by omega
  by_cases hl1:len1<=1048576
  ·have iw:¬ (1048576:Int)<(len1:Int):=by omega
   have Hr:=af (abT.rb h0);clear h0 gu;go_enter func7,ntmps7;go_wp2_with fail;clear iE iw;refine (bu _ _ _ Hr.o).mono ?_;rintro en w1 ⟨k,cs,_,_,_,_,bl,cl,rfl,⟨⟨a0,n0,m0,rfl⟩,⟨a1,n1,m1,rfl⟩,⟨a2,n2,m2,rfl⟩,⟨a3,n3,m3,rfl⟩⟩,hs,gy,dh,hk,hb⟩;obtain ⟨w2,bV⟩:∃ V,w1.alloc (.cells #[.slice a0 n0 m0,.slice a1 n1 m1,.slice a2 n2 m2,.slice a3 n3 m3] 28)=V:=⟨_,rfl⟩;have B2:Below w1.heap.size w1 w2:=bV ▸ dm;have dO:=af (show BX w2 w1.heap.size 28 [.slice a0 n0 m0,.slice a1 n1 m1,.slice a2 n2 m2,.slice a3 n3 m3] from bV ▸ BX.new w1 _ _);have dU:=af (hk.below B2);have dQ:=af (show Zj w2 _ cs from RS.below gy B2);have Bw:=af (hb.trans (B2.mono hb.size));have Hs:=af hs;have cZ:=af dh;clear B2 hk gy hb hs dh;obtain ⟨r,hr⟩:=XP (QI k cs);have HC:=af (hr ▸ aj k cs _ _ _ _ _ w2 dU.o Hs.o dQ.o cZ.o);have Ol:=af hr
   clear hr;have p0:=dO.o.c4;go_wp2_with fail
   try rw [bV]
   clear bV;refine HC.o.mono ?_;rintro en w3 ⟨_,_,_,_,vo,mid,rfl,aC,ak,aO,bT,hb⟩;clear p0 HC aC bT;obtain ⟨⟨b0,q0,z0,rfl⟩,⟨b1,q1,z1,rfl⟩,⟨b2,q2,z2,rfl⟩,⟨b3,q3,z3,rfl⟩⟩:=ak.sl;obtain ⟨ao,co,rfl⟩:=aO.ri.val;obtain ⟨w4,bM⟩:∃ V,w3.alloc (.cells #[.slice b0 q0 z0,.slice b1 q1 z1,.slice b2 q2 z2,.slice b3 q3 z3] 28)=V:=⟨_,rfl⟩;have B4:Below w3.heap.size w3 w4:=bM ▸ dm;have gQ:=af (show BX w4 w3.heap.size 28 [.slice b0 q0 z0,.slice b1 q1 z1,.slice b2 q2 z2,.slice b3 q3 z3] from bM ▸ BX.new w3 _ _);have gU:=af (ak.rk.below B4);have SQ:=af (aO.ri.below B4);have VS:=hb.trans (B4.mono hb.size);replace dO:=af (dO.o.below VS);replace dU:=af (dU.o.below VS);replace dQ:=af (show Zj w4 _ cs from RS.below dQ.o VS);replace Bw:=af (Bw.o.trans (VS.mono Bw.o.size));clear ak aO hb B4 VS
   have HC:=af (Ol.o ▸ bn k cs _ _ _ _ _ w4 dU.o Hs.o dQ.o cZ.o);have p0:=dO.o.c4;go_wp2_with fail
   try rw [bM]
   clear bM;refine HC.o.mono ?_;rintro en w5 ⟨_,_,_,_,vt,rfl,fV,fK,hb⟩;clear p0 HC;obtain ⟨⟨d0,x0,y0,rfl⟩,⟨d1,x1,y1,rfl⟩,⟨d2,x2,y2,rfl⟩,⟨d3,x3,y3,rfl⟩⟩:=fV.slc;obtain ⟨at',ct,rfl⟩:=fK.val;obtain ⟨w6,bY⟩:∃ V,w5.alloc (.cells #[.slice d0 x0 y0,.slice d1 x1 y1,.slice d2 x2 y2,.slice d3 x3 y3] 28)=V:=⟨_,rfl⟩;have B6:Below w5.heap.size w5 w6:=bY ▸ dm;have df:=hb.trans (B6.mono hb.size);have H:=af (show uq w w6 w1.heap.size w3.heap.size w5.heap.size k r cs (.slice (some ⟨bl,0,none⟩) cs.length cl) (.slice ao r.2.length co) (.slice at' r.2.length ct) (.slice a0 n0 m0) (.slice a1 n1 m1) (.slice a2 n2 m2) (.slice a3 n3 m3) (.slice b0 q0 z0) (.slice b1 q1 z1) (.slice b2 q2 z2) (.slice b3 q3 z3) (.slice d0 x0 y0) (.slice d1 x1 y1) (.slice d2 x2 y2) (.slice d3 x3 y3) from
    ⟨Bw.o.trans (df.mono Bw.o.size),dO.o.below df,dU.o.below df,RS.below dQ.o df,gQ.o.below df,gU.o.below df,SQ.o.below df,bY ▸ BX.new w5 _ _,fV.below B6,fK.below B6⟩)
   obtain ⟨gk,gz⟩:∃ g,w1.heap.size=g:=⟨_,rfl⟩;obtain ⟨go,gq⟩:∃ g,w3.heap.size=g:=⟨_,rfl⟩;obtain ⟨gw,gB⟩:∃ g,w5.heap.size=g:=⟨_,rfl⟩;rw [gz,gq,gB] at H;clear fV fK hb B6 df dO dU dQ gQ gU SQ Bw;go_wp2_with fail
   try rw [bY]
   try rw [gz]
   try rw [gq]
   try rw [gB]
   clear bY gz gq gB;refine (QB _ _ _ _ _ H.o.co H.o.cw).mono ?_;rintro en w7 ⟨rfl,hb⟩;rw [decide_eq_true rfl];replace H:=af (H.o.go hb);clear hb;obtain ⟨o0,o1,o2,o3⟩:=H.o.xo.c4;have t0:=H.o.xw.c4;go_wp2_with fail;clear o0 o1 o2 o3 t0;refine (adE r.1 _ _ _ _ _ _ _ _ _ H.o.ro H.o.rw).mono ?_;rintro en w8 ⟨rfl,hb⟩;replace H:=af (H.o.go hb);clear hb;have p0:=H.o.dM.c4;go_wp2_with fail;clear p0;refine (kJ k _ _ _ _ _ H.o.rk Hs.o).mono ?_;rintro en w9 ⟨rfl,hb⟩;replace H:=af (H.o.go hb);clear hb
   cases aI:az k with
   | false =>
    clear aI;go_wp2_with fail;refine (QB _ _ _ _ _ H.o.co H.o.cw).mono ?_;rintro en w10 ⟨rfl,hb⟩;rw [decide_eq_true rfl];replace H:=af (H.o.go hb);clear hb;obtain ⟨o0,o1,o2,o3⟩:=H.o.xo.c4;have t0:=H.o.xw.c4;go_wp2_with fail;refine (adE r.1 _ _ _ _ _ _ _ _ _ H.o.ro H.o.rw).mono ?_;rintro en UR ⟨rfl,hb⟩;replace H:=af (H.o.go hb);clear hb;go_wp2_with fail;go_ret;exact ⟨rfl,H.o.b⟩
   | true =>
    have bF:=af aI;have Hf:=af (show cs.foldl Kx.uK (k,[])=r by rw [<-Ol.o];unfold QI;rw [aI];rfl);clear aI Ol;obtain ⟨i,hi⟩:=Int.eq_ofNat_of_zero_le (show 0<=((len1:Int)).tmod ((cs.length:Int)+1) from Int.tmod_nonneg _ (by omega));have fE:i<=cs.length:=by
     have h1:((len1:Int)).tmod ((cs.length:Int)+1)=((len1 % (cs.length+1):Nat):Int):=by rw [Int.tmod_eq_emod_of_nonneg (by omega)];simp
     have h2:=Nat.mod_lt len1 (show 0<cs.length+1 by omega);omega
    have iF:cs.length<=1099511627776:=H.o.rl.1;have ja:IntKind.i64.wrap ((cs.length:Int)+1)=(cs.length:Int)+1:=IntWalk.i64_in _ (by omega);have iW:IntKind.i64.wrap (i:Int)=(i:Int):=IntWalk.i64_in _ (by omega);have jc:((cs.length:Int)+1)≠0:=by omega
    obtain ⟨s1,dY⟩:∃ s,(cs.take i).foldl Kx.uK (k,[])=s:=⟨_,rfl⟩;obtain ⟨s2,fD⟩:∃ s,(cs.drop i).foldl Kx.uK (s1.1,[])=s:=⟨_,rfl⟩;have gV:=af (show r=(s2.1,s1.2 ++ s2.2) by
     have:=Kx.o9 (cs.take i) (cs.drop i) k
     rw [List.take_append_drop,Hf.o,dY,fD] at this;exact this)
    have Ky:=af (show az s1.1=true from nN.2 (dY ▸ Kx.Ok.XT (cs.take i) (s:=(k,[])) (nN.1 bF.o)));have Zy:=af (fun W (hb:Below w9.heap.size w9 W)=>aj k (cs.take i) _ _ _ _ _ W ((H.o.go hb).rk) Hs.o (RS.take (H.o.go hb).rl i fE) (fun c hc=>cZ.o c (List.mem_of_mem_take hc)))
    rw [show QI k (cs.take i)=s1 by unfold QI;rw [bF.o];exact dY] at Zy;have iT:=af (show QI s1.1 (cs.drop i)=s2 by unfold QI;rw [Ky.o];exact fD);have Xo:=af (fun c (hc:c ∈ cs.drop i)=>cZ.o c (List.mem_of_mem_drop hc))
    have ES:=af fE;have iV:(i:Int)<=(cs.length:Int):=by omega
    have iH:i<=cl:=Nat.le_trans fE (RS.len H.o.rl rfl).2.1;obtain ⟨o2,l7,hif⟩:∃ o2,TI (∀ W,Below w9.heap.size w9 W->Zj W (.slice (some ⟨bl,o2,none⟩) (cs.length - i) (cl - i)) (cs.drop i))/\(if cl=i then (some ⟨bl,0,none⟩:Option Addr) else some ⟨bl,i*6,none⟩)=some ⟨bl,o2,none⟩:=by
     by_cases hci:cl=i
     ·refine ⟨0,fun W hb=>?_,by rw [if_pos hci]⟩
      have:=(RS.len H.o.rl rfl).2.1
      obtain rfl:cs.length=i:=by omega
      rw [List.drop_length,Nat.sub_self];exact ⟨by simp,.inl ⟨rfl,_,_,rfl,Nat.le_trans (Nat.sub_le _ _) (RS.len H.o.rl rfl).2.2,fun e=>by cases e⟩⟩
     refine ⟨i*6,fun W hb=>?_,by rw [if_neg hci]⟩
     have:=rf (H.o.go hb).rl i fE
     rwa [Nat.zero_add] at this
    have gW:=af (show s1.2.length+s2.2.length<=1099511627776 by
     have h1:=Kx.bi (cs.take i) k [];have h2:=Kx.bi (cs.drop i) s1.1 [];rw [dY] at h1;rw [fD] at h2;simp at h1 h2;omega)
    clear dY fD Hf;have aF:=af (show ∀ W,Below w9.heap.size w9 W->(W.cell? ⟨gk,0,none⟩=some (.slice a0 n0 m0)/\W.cell? ⟨gk,1,none⟩=some (.slice a1 n1 m1)/\W.cell? ⟨gk,2,none⟩=some (.slice a2 n2 m2)/\W.cell? ⟨gk,3,none⟩=some (.slice a3 n3 m3)) from fun W h=>⟨(H.o.dM.below h).cell 0,(H.o.dM.below h).cell 1,(H.o.dM.below h).cell 2,(H.o.dM.below h).cell 3⟩)
    have ax:=Below.refl w9.heap.size w9;have dX:=aF.o _ (Below.bz ax);go_wp2_with fail;refine afi aF fun ah=>?_
    clear dX;obtain ⟨de,hd⟩:∃ d,w9.drew=d:=⟨_,rfl⟩;rw [hd] at ah ⊢;replace ax:Below w9.heap.size w9 de:=hd ▸ Below.bz ax;clear hd;refine afV 0 ?_;refine ae' 4 8 (fun K hK=>?_) (fun K hK=>?_)
    case' refine_1 =>
     (go_simp;go_at_call 23;refine (Zy.o _ ax).mono ?_;rintro en dG ⟨_,_,_,_,ve,mid,rfl,aC,ak,aO,-,hb⟩;obtain ⟨⟨e0,i0,j0,rfl⟩,⟨e1,i1,j1,rfl⟩,⟨e2,i2,j2,rfl⟩,⟨e3,i3,j3,rfl⟩⟩:=ak.sl;obtain ⟨ae,ce,rfl⟩:=aO.ri.val;have au:=ax.trans (hb.mono ax.size);have aB:=af (ak.mono aC);have bG:=af (aO.mono (Nat.zero_le _));replace aB:=af (aB.o.mono (show w9.heap.size<=_ from ax.size));clear ak aO aC hb;have dn:=aF.o dG au;go_wp2_with fail)
     refine afS hK fun ah=>?_
     clear hK K;refine afU 5 ?_;refine ac' 7 ?_;refine ahk 8 fun K hK=>?_
     (go_simp;obtain ⟨dH,hU⟩:∃ bH,dG.alloc (.cells #[.slice none 0 0,.slice none 0 0,.slice none 0 0,.slice none 0 0] 28)=bH:=⟨_,rfl⟩;have aA:=af (show BX dH dG.heap.size 28 [.slice none 0 0,.slice none 0 0,.slice none 0 0,.slice none 0 0] from hU ▸ BX.new dG _ _);obtain ⟨ge,Fh⟩:∃ g,dG.heap.size=g:=⟨_,rfl⟩;have bI:w9.heap.size<=ge:=Fh ▸ au.size;have aG:=(show Below dG.heap.size dG dH from hU ▸ dm);replace aB:=af (aB.o.below aG);replace bG:=af (bG.o.below aG);have aQ:=au.trans (aG.mono au.size);have di:=aF.o dH aQ;rw [Fh] at aA ⊢;try rw [hU];clear hU Fh aG)
     refine afS hK fun ah=>?_
     clear hK K
    case' refine_2 =>
     (go_simp;obtain ⟨fM,hU⟩:∃ bH,de.alloc (.cells #[.slice none 0 0,.slice none 0 0,.slice none 0 0,.slice none 0 0] 28)=bH:=⟨_,rfl⟩;have aA:=af (show BX fM de.heap.size 28 [.slice none 0 0,.slice none 0 0,.slice none 0 0,.slice none 0 0] from hU ▸ BX.new de _ _);obtain ⟨ge,Fh⟩:∃ g,de.heap.size=g:=⟨_,rfl⟩;have bI:w9.heap.size<=ge:=Fh ▸ ax.size;have aG:=(show Below de.heap.size de fM from hU ▸ dm);have au:=ax.trans (aG.mono ax.size);have dn:=aF.o fM au;rw [Fh] at aA ⊢;try rw [hU];clear hU Fh aG)
     refine afS hK fun ah=>?_
     clear hK K;refine ahk 4 fun K hK=>?_
     (go_simp;go_at_call 23;refine (Zy.o _ au).mono ?_;rintro en dH ⟨_,_,_,_,ve,mid,rfl,aC,ak,aO,-,hb⟩;obtain ⟨⟨e0,i0,j0,rfl⟩,⟨e1,i1,j1,rfl⟩,⟨e2,i2,j2,rfl⟩,⟨e3,i3,j3,rfl⟩⟩:=ak.sl;obtain ⟨ae,ce,rfl⟩:=aO.ri.val;have aQ:=au.trans (hb.mono au.size);have aB:=af (ak.mono aC);have bG:=af (aO.mono (Nat.zero_le _));replace aA:=af (aA.o.below hb);replace aB:=af (aB.o.mono (show w9.heap.size<=_ from au.size));clear ak aO aC hb;have di:=aF.o dH aQ;go_wp2_with fail)
     refine afS hK fun ah=>?_
     clear hK K;refine afU 5 ?_;refine ac' 7 ?_
    all_goals
     have p0:=aA.o.c4;have gI:=aA.o.f4;refine ahk 9 fun K hK=>?_
     (go_simp;obtain ⟨aH,hV⟩:∃ bH,sets dH ge 0 [.slice e0 i0 j0,.slice e1 i1 j1,.slice e2 i2 j2,.slice e3 i3 j3]=bH:=⟨_,rfl⟩;have aZ:Below w9.heap.size w9 aH:=hV ▸ dP bI _ 0 aQ;have eH:=af (show BX aH ge 28 [.slice e0 i0 j0,.slice e1 i1 j1,.slice e2 i2 j2,.slice e3 i3 j3] from hV ▸ aA.o.sets _ rfl);have iI:=af (show RK aH (.slice e0 i0 j0) (.slice e1 i1 j1) (.slice e2 i2 j2) (.slice e3 i3 j3) s1.1 from hV ▸ (KO.sets aJ _ 0 aA.o aB.o).rk);have eP:=af (show RS iR 1 aH _ s1.2 from (hV ▸ OS.sets (by decide) _ 0 aA.o bG.o.os:OS iR 1 3 aH 0 _ s1.2).rs);rw [afA dH,hV];have eF:=aF.o aH aZ)
     refine afS hK fun ah=>?_
     clear hK K;refine ac' 10 ?_;refine wpAnyH_done (by kernel_rfl) ?_ _;have eQ:=af aZ;clear hV p0 gI ah bI aQ au dn di eF aA aB bG ax aZ aF;have fP:=af (fun W (hb:Below aH.heap.size aH W)=>iT.o ▸ aj s1.1 (cs.drop i) _ _ _ _ _ W (iI.o.below hb) (jX Ky.o) (l7.o W (eQ.o.trans (hb.mono eQ.o.size))) Xo.o)
     have aF:=af (show ∀ W,Below aH.heap.size aH W->(W.cell? ⟨ge,0,none⟩=some (.slice e0 i0 j0)/\W.cell? ⟨ge,1,none⟩=some (.slice e1 i1 j1)/\W.cell? ⟨ge,2,none⟩=some (.slice e2 i2 j2)/\W.cell? ⟨ge,3,none⟩=some (.slice e3 i3 j3)) from fun W h=>⟨(eH.o.below h).cell 0,(eH.o.below h).cell 1,(eH.o.below h).cell 2,(eH.o.below h).cell 3⟩)
     have ax:=Below.refl aH.heap.size aH;have dX:=aF.o _ (Below.bz ax);go_wp2_with fail;refine afi aF fun ah=>?_
     clear dX;obtain ⟨dI,hd⟩:∃ d,aH.drew=d:=⟨_,rfl⟩;rw [hd] at ah ⊢;replace ax:Below aH.heap.size aH dI:=hd ▸ Below.bz ax;clear hd;refine afV 0 ?_;refine ae' 4 8 (fun K hK=>?_) (fun K hK=>?_)
     case' refine_1 =>
      (go_simp;go_at_call 23;refine (fP.o _ ax).mono ?_;rintro en dJ ⟨_,_,_,_,vf,mid,rfl,aC,ak,aO,-,hb⟩;obtain ⟨⟨f0,fu0,eU,rfl⟩,⟨f1,fu1,eX,rfl⟩,⟨f2,eY,fA,rfl⟩,⟨f3,fu3,fB,rfl⟩⟩:=ak.sl;obtain ⟨iJ,cf,rfl⟩:=aO.ri.val;have au:=ax.trans (hb.mono ax.size);have aB:=af (ak.mono aC);have bG:=af (aO.mono (Nat.zero_le _));replace aB:=af (aB.o.mono (show aH.heap.size<=_ from ax.size));clear ak aO aC hb;have dn:=aF.o dJ au;go_wp2_with fail)
      refine afS hK fun ah=>?_
      clear hK K;refine afU 5 ?_;refine ac' 7 ?_;refine ahk 8 fun K hK=>?_
      (go_simp;obtain ⟨dK,hU⟩:∃ bH,dJ.alloc (.cells #[.slice none 0 0,.slice none 0 0,.slice none 0 0,.slice none 0 0] 28)=bH:=⟨_,rfl⟩;have aA:=af (show BX dK dJ.heap.size 28 [.slice none 0 0,.slice none 0 0,.slice none 0 0,.slice none 0 0] from hU ▸ BX.new dJ _ _);obtain ⟨gf,Fh⟩:∃ g,dJ.heap.size=g:=⟨_,rfl⟩;have bI:aH.heap.size<=gf:=Fh ▸ au.size;have aG:=(show Below dJ.heap.size dJ dK from hU ▸ dm);replace aB:=af (aB.o.below aG);replace bG:=af (bG.o.below aG);have aQ:=au.trans (aG.mono au.size);have di:=aF.o dK aQ;rw [Fh] at aA ⊢;try rw [hU];clear hU Fh aG)
      refine afS hK fun ah=>?_
      clear hK K
     case' refine_2 =>
      (go_simp;obtain ⟨fO,hU⟩:∃ bH,dI.alloc (.cells #[.slice none 0 0,.slice none 0 0,.slice none 0 0,.slice none 0 0] 28)=bH:=⟨_,rfl⟩;have aA:=af (show BX fO dI.heap.size 28 [.slice none 0 0,.slice none 0 0,.slice none 0 0,.slice none 0 0] from hU ▸ BX.new dI _ _);obtain ⟨gf,Fh⟩:∃ g,dI.heap.size=g:=⟨_,rfl⟩;have bI:aH.heap.size<=gf:=Fh ▸ ax.size;have aG:=(show Below dI.heap.size dI fO from hU ▸ dm);have au:=ax.trans (aG.mono ax.size);have dn:=aF.o fO au;rw [Fh] at aA ⊢;try rw [hU];clear hU Fh aG)
      refine afS hK fun ah=>?_
      clear hK K;refine ahk 4 fun K hK=>?_
      (go_simp;go_at_call 23;refine (fP.o _ au).mono ?_;rintro en dK ⟨_,_,_,_,vf,mid,rfl,aC,ak,aO,-,hb⟩;obtain ⟨⟨f0,fu0,eU,rfl⟩,⟨f1,fu1,eX,rfl⟩,⟨f2,eY,fA,rfl⟩,⟨f3,fu3,fB,rfl⟩⟩:=ak.sl;obtain ⟨iJ,cf,rfl⟩:=aO.ri.val;have aQ:=au.trans (hb.mono au.size);have aB:=af (ak.mono aC);have bG:=af (aO.mono (Nat.zero_le _));replace aA:=af (aA.o.below hb);replace aB:=af (aB.o.mono (show aH.heap.size<=_ from au.size));clear ak aO aC hb;have di:=aF.o dK aQ;go_wp2_with fail)
      refine afS hK fun ah=>?_
      clear hK K;refine afU 5 ?_;refine ac' 7 ?_
     all_goals
      have p0:=aA.o.c4;have gI:=aA.o.f4;refine ahk 9 fun K hK=>?_
      (go_simp;obtain ⟨dR,hV⟩:∃ bH,sets dK gf 0 [.slice f0 fu0 eU,.slice f1 fu1 eX,.slice f2 eY fA,.slice f3 fu3 fB]=bH:=⟨_,rfl⟩;have aZ:Below aH.heap.size aH dR:=hV ▸ dP bI _ 0 aQ;have iK:=af (show BX dR gf 28 [.slice f0 fu0 eU,.slice f1 fu1 eX,.slice f2 eY fA,.slice f3 fu3 fB] from hV ▸ aA.o.sets _ rfl);have OL:=af (show RK dR (.slice f0 fu0 eU) (.slice f1 fu1 eX) (.slice f2 eY fA) (.slice f3 fu3 fB) s2.1 from hV ▸ (KO.sets aJ _ 0 aA.o aB.o).rk);have gX:=af (show RS iR 1 dR _ s2.2 from (hV ▸ OS.sets (by decide) _ 0 aA.o bG.o.os:OS iR 1 3 dR 0 _ s2.2).rs);rw [afA dK,hV];have eF:=aF.o dR aZ)
      refine afS hK fun ah=>?_
      clear hK K;refine ac' 10 ?_;refine wpAnyH_done (by kernel_rfl) ?_ _;have gZ:=af aZ;clear hV p0 gI ah bI aQ au dn di eF aA aB bG ax aZ aF;have aS:=af (H.o.go (eQ.o.trans (gZ.o.mono eQ.o.size)));replace eP:=af (RS.below eP.o gZ.o);have iL:=iK.o.c4;obtain ⟨o0,o1,o2,o3⟩:=aS.o.xo.c4;clear Zy fP;go_wp2_with fail;clear iL o0 o1 o2 o3;refine (adE s2.1 _ _ _ _ _ _ _ _ _ OL.o (by have:=aS.o.ro;rw [gV.o] at this;exact this)).mono ?_;rintro en wb ⟨rfl,hb⟩;replace aS:=af (aS.o.go hb);have Yp:=af (RS.below eP.o hb);have iM:=af (RS.below gX.o hb);clear hb eP gX;have Bl:=af (show Below wb.heap.size wb (wb.alloc (.cells #[] 3)) from dm);have iO:=af (show ([]:List Int).length+s1.2.length<=1099511627776 by have:=gW.o;simp;omega);go_wp2_with (at_builtin;first
       | (refine eu rfl _ _ rfl wb.heap.size _ [] rfl (OS.d_ aW) _ s1.2 rfl (RS.below Yp.o Bl.o) iO.o (by simp) ?_;intro v8 w8 xE J5;rw [List.nil_append] at xE;have fC:=af (show Below wb.heap.size wb w8 from Below.dN Bl.o (OS.d_ (f:=iR) (sz:=1) (e:=3) aW) J5 aW (by simp));have Ot:=af xE;clear xE J5)
       | (refine eu rfl _ _ rfl wb.heap.size _ s1.2 rfl Ot.o _ s2.2 rfl (RS.below iM.o fC.o) gW.o fC.o.size ?_;intro v7 w7 Y1 Fh;have ZH:=af (show Below wb.heap.size wb w7 from Below.dN fC.o Ot.o Fh aW fC.o.size);have iP:=af Y1;clear Y1 Fh))
      replace aS:=af (aS.o.go ZH.o);refine (QB (s1.2 ++ s2.2) (s1.2 ++ s2.2) _ _ _ iP.o.oi.ri (by rw [<-show r.2=s1.2 ++ s2.2 by rw [gV.o]];exact aS.o.co)).mono ?_;rintro en wc ⟨rfl,hb⟩;rw [decide_eq_true rfl];have HB:=af (aS.o.go hb).b;go_wp2_with fail;go_ret;exact ⟨rfl,HB.o⟩
  have iw:(1048576:Int)<(len1:Int):=by omega
  clear h0 gu;go_enter func7,ntmps7;go_wp2_with fail;go_ret;exact ⟨rfl,Below.refl _ _⟩
 have iE:(1048576:Int)<(len0:Int):=by omega
 clear h0 gu;go_enter func7,ntmps7;go_wp2_with fail;go_ret;exact ⟨rfl,Below.refl _ _⟩
end Go.Proofs.YthcmmoibpgcgaaaGreatDoor
