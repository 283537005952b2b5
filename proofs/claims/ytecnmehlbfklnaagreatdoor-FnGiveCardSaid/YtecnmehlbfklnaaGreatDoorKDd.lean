/- KD17, KD18, joined. -/
import Derived.IntWalk
import Derived.Test.YtecnmehlbfklnaaGreatDoorKD5
import Derived.Test.YtecnmehlbfklnaaGreatDoorKD16
set_option maxHeartbeats 8000000
set_option maxRecDepth 100000
set_option linter.all false
open Nat renaming le_trans->A1,zero_le->A2,le_refl->A3
open Int renaming eq_ofNat_of_zero_le->A4
open Option.some renaming injEq->A5
open Go.Value renaming slice->A0
open Go.Proofs.Tryz
namespace Go.Proofs.YtecnmehlbfklnaaGreatDoor
open Go.RowKit Kx
theorem TN {W W1 W2 W3:World} {a b c:Kx.Str} {g:Nat} (h0:dK W (A0 (some ⟨g,0,none⟩) 1 1) [a]) (e1:W.alloc (.cells #[.string b] 9)=W1) (e2:W1.alloc (.cells #[.string c] 9)=W2)
  (e3:W2.alloc (.cells #[A0 (some ⟨g,0,none⟩) 1 1,A0 (some ⟨W.heap.size,0,none⟩) 1 1,A0 (some ⟨W1.heap.size,0,none⟩) 1 1] 41)=W3) :
  OD W3 (A0 (some ⟨W2.heap.size,0,none⟩) 3 3) [[a],[b],[c]]:=by
 have q2:RS df 1 W1 (A0 (some ⟨W.heap.size,0,none⟩) 1 1) [b]:=e1 ▸ RS.one (f:=df) b #[.string b] rfl W _;have q3:RS df 1 W2 (A0 (some ⟨W1.heap.size,0,none⟩) 1 1) [c]:=e2 ▸ RS.one (f:=df) c #[.string c] rfl W1 _;have b1:Below W.heap.size W W1:=e1 ▸ dm;have b2:Below W1.heap.size W1 W2:=e2 ▸ dm;have b3:Below W2.heap.size W2 W3:=e3 ▸ dm;have hc:BX W3 W2.heap.size 41 [A0 (some ⟨g,0,none⟩) 1 1,A0 (some ⟨W.heap.size,0,none⟩) 1 1,A0 (some ⟨W1.heap.size,0,none⟩) 1 1]:=e3 ▸ BX.new W2 _ _;refine ⟨[A0 (some ⟨g,0,none⟩) 1 1,A0 (some ⟨W.heap.size,0,none⟩) 1 1,A0 (some ⟨W1.heap.size,0,none⟩) 1 1],rfl,⟨by simp,.inr ⟨W2.heap.size,0,3,rfl,A3 _,by unfold maxLen;omega,hc.lt,fun k hk j u hu=>?_⟩⟩,fun i h h'=>?_⟩
 ·have hj:j=0:=by
   cases j with
   | zero=>rfl
   | succ j=>simp [yL] at hu
  subst hj;simp only [List.length_cons,List.length_nil] at hk;have:=hc.cell k;rw [show (0:Nat)+k*1+0=k by omega];rw [this];simpa [yL,hk] using hu
 simp only [List.length_cons,List.length_nil] at h;have hi:i=0\/i=1\/i=2:=by omega
 rcases hi with rfl | rfl | rfl
 ·exact RS.below (RS.below (RS.below h0 b1) b2) b3
 ·exact RS.below (RS.below q2 b2) b3
 exact RS.below q3 b3
def yO:List Kx.Str:=[⟨#[98]⟩,⟨#[97]⟩,⟨#[97,98]⟩,⟨#[]⟩]
theorem II:∀ s ∈ yO,az (jd [[Kx.sA],[s],[Kx.sC]])=true:=by decide +kernel
theorem zT:∀ s ∈ yO,∀ r ∈ [[Kx.sA],[s],[Kx.sC]],aS r=true:=by decide
def Fa (w:World) (base:Nat) (um ui ue uc:Value) (k:Kx.Kernel):Prop:=∀ V,Up base w V->RK V um ui ue uc k
section
variable {w W V:World} {base rb q q' g2 g3 g5:Nat} {um ui ue uc us ul uq v0 v1 v2 v3 u0 u1 u2 u3 u4 u5 u6:Value} {k k':Kx.Kernel} {p p':aH}
theorem KO.MQ (h:KO w base um ui ue uc k):Fa w base um ui ue uc k:=fun _ hu=>(h.up hu).rk
theorem IE.MQ (h:IE w base um ui ue uc us ul uq p):Fa w base um ui ue uc p.k:=fun V hu=>(h V hu).k
structure L0 (w W:World) (rb q g2 g3:Nat) (v0 v1 v2 v3:Value):Prop where
 r:RD W rb q
 g:w.grownBy W (some rb)
 x2:BX W g2 28 [A0 none 0 0,A0 none 0 0,A0 none 0 0,A0 none 0 0]
 x3:BX W g3 28 [v0,v1,v2,v3]
 sl:Sl v0/\Sl v1/\Sl v2/\Sl v3
 h:rb<w.heap.size/\w.heap.size<=g2/\g2<g3
theorem L0.pick (h:L0 w W rb q g2 g3 v0 v1 v2 v3) (hr:RD V rb q') (hg:W.grownBy V (some rb)):L0 w V rb q' g2 g3 v0 v1 v2 v3:=
 ⟨hr,grownBy_trans h.g hg,(hg.block g2 h.x2.lt (by have:=h.h;simp;omega)).trans h.x2,(hg.block g3 h.x3.lt (by have:=h.h;simp;omega)).trans h.x3,h.sl,h.h⟩
theorem L0.below (h:L0 w W rb q g2 g3 v0 v1 v2 v3) (hb:Below W.heap.size W V):L0 w V rb q g2 g3 v0 v1 v2 v3:=
 h.pick (h.r.keep hb) (grown_below hb ⟨hb.os,hb.tape,hb.output⟩)
theorem L0.RQ (h:L0 w W rb q g2 g3 v0 v1 v2 v3) (hs:Sl u0/\Sl u1/\Sl u2/\Sl u3):L0 w (sets W g3 0 [u0,u1,u2,u3]) rb q g2 g3 u0 u1 u2 u3:=by
 obtain ⟨h1,h2⟩:=mi (w:=w) (g:=g3) (by have:=h.h;omega) (by have:=h.h;omega) [u0,u1,u2,u3] 0 h.r h.g;exact ⟨h1,h2,BX.iq (by have:=h.h;omega) _ 0 h.x2,h.x3.sets _ rfl,hs,h.h⟩
theorem L0.jb (h:L0 w W rb q g2 g3 v0 v1 v2 v3) (h5:g3<g5) (l:List Value):L0 w (sets W g5 0 l) rb q g2 g3 v0 v1 v2 v3:=by
 obtain ⟨h1,h2⟩:=mi (w:=w) (g:=g5) (by have:=h.h;omega) (by have:=h.h;omega) l 0 h.r h.g;exact ⟨h1,h2,BX.iq (by have:=h.h;omega) _ 0 h.x2,BX.iq (by omega) _ 0 h.x3,h.sl,h.h⟩
def MP (w:World) (base hi:Nat) (um ui ue uc:Value) (k:Kx.Kernel):Prop:=∀ V:World,w.heap.size<=V.heap.size->(∀ j,base<=j->j<hi->V.heap[j]?=w.heap[j]?)->RK V um ui ue uc k
theorem Fa.r (h:Fa w base um ui ue uc k):MP w base w.heap.size um ui ue uc k:=fun V hs hk=>h V ⟨hs,hk⟩
theorem MP.to {hi:Nat} (h:MP w base hi um ui ue uc k) (hs:w.heap.size<=V.heap.size) (hk:∀ j,base<=j->j<hi->V.heap[j]?=w.heap[j]?):MP V base hi um ui ue uc k:=
 fun U h1 h2=>h U (A1 hs h1) (fun j a b=>(h2 j a b).trans (hk j a b))
theorem MP.MQ {hi:Nat} (h:MP w base hi um ui ue uc k) (hh:hi<=w.heap.size):Fa w base um ui ue uc k:=fun V hu=>h V hu.1 (fun j a b=>hu.2 j a (by omega))
theorem jB (g:Nat) (l:List Value):∀ (i:Nat) (w:World),(sets w g i l).heap.size=w.heap.size:=by
 induction l with
 | nil=>intro i w;rfl
 | cons v l ih=>intro i w;exact (ih (i+1) _).trans (by simp [World.setCell])
theorem mG (g:Nat) (l:List Value) {j:Nat} (hj:j≠g):∀ (i:Nat) (w:World),(sets w g i l).heap[j]?=w.heap[j]?:=by
 induction l with
 | nil=>intro i w;rfl
 | cons v l ih=>intro i w;exact (ih (i+1) _).trans (Below.heap_setCell _ _ _ _ hj)
structure LK (w W:World) (rb q g2 g3:Nat) (k:Kx.Kernel) (v0 v1 v2 v3:Value):Prop where
 l:L0 w W rb q g2 g3 v0 v1 v2 v3
 f:∃ base hi,g2<base/\(g3<base\/hi<=g3)/\hi<=W.heap.size/\MP W base hi v0 v1 v2 v3 k
 ok:az k=true
theorem LK.pick (h:LK w W rb q g2 g3 k v0 v1 v2 v3) (hr:RD V rb q') (hg:W.grownBy V (some rb)):LK w V rb q' g2 g3 k v0 v1 v2 v3:=by
 obtain ⟨base,hi,h2,h3,h4,hk⟩:=h.f;have h1:=h.l.h;exact ⟨h.l.pick hr hg,⟨base,hi,h2,h3,A1 h4 hg.size,hk.to hg.size (fun j a b=>hg.block j (by omega) (by simp;omega))⟩,h.ok⟩
theorem LK.below (h:LK w W rb q g2 g3 k v0 v1 v2 v3) (hb:Below W.heap.size W V):LK w V rb q g2 g3 k v0 v1 v2 v3:=
 h.pick (h.l.r.keep hb) (grown_below hb ⟨hb.os,hb.tape,hb.output⟩)
theorem LK.rk (h:LK w W rb q g2 g3 k v0 v1 v2 v3):RK W v0 v1 v2 v3 k:=by
 obtain ⟨base,hi,h2,h3,h4,hk⟩:=h.f;exact hk W aW (fun _ _ _=>rfl)
theorem L0.lQ (h:L0 w W rb q g2 g3 v0 v1 v2 v3) (hs:Sl u0/\Sl u1/\Sl u2/\Sl u3) (hg:g3<base) (hk:Fa W base u0 u1 u2 u3 k') (hok:az k'=true):LK w (sets W g3 0 [u0,u1,u2,u3]) rb q g2 g3 k' u0 u1 u2 u3:=
 ⟨h.RQ hs,⟨base,W.heap.size,by have:=h.h;omega,.inl hg,by rw [jB];exact A3 _,hk.r.to (by rw [jB];exact A3 _) (fun j a _=>mG _ _ (by omega) _ _)⟩,hok⟩
theorem LK.ag (h:LK w W rb q g2 g3 k v0 v1 v2 v3):∀ V,W.grownBy V (some rb)->bV V v1 k.ag:=by
 obtain ⟨base,hi,h2,h3,h4,hk⟩:=h.f;have h1:=h.l.h;exact fun V hg=>(hk V hg.size (fun j a b=>hg.block j (by omega) (by simp;omega))).i
theorem LK.fin (h:LK w W rb q g2 g3 k v0 v1 v2 v3):∃ base,g2<base/\Fa (sets W g2 0 [v0,v1,v2,v3]) base v0 v1 v2 v3 k/\RD (sets W g2 0 [v0,v1,v2,v3]) rb q/\w.grownBy (sets W g2 0 [v0,v1,v2,v3]) (some rb)/\BX (sets W g2 0 [v0,v1,v2,v3]) g2 28 [v0,v1,v2,v3]:=by
 obtain ⟨base,hi,h2,h3,h4,hk⟩:=h.f;have h1:=h.l.h;obtain ⟨a,b⟩:=mi (w:=w) (g:=g2) (by omega) (by omega) [v0,v1,v2,v3] 0 h.l.r h.l.g;exact ⟨base,h2,(hk.to (by rw [jB];exact A3 _) (fun j a _=>mG _ _ (by omega) _ _)).MQ (by rw [jB];exact h4),a,b,h.l.x2.sets _ rfl⟩
def Qi (w:World) (base hi:Nat) (u0 u1 u2 u3 u4 u5 u6:Value) (p:aH):Prop:=∀ V:World,w.heap.size<=V.heap.size->(∀ j,base<=j->j<hi->V.heap[j]?=w.heap[j]?)->RP V u0 u1 u2 u3 u4 u5 u6 p
theorem IE.r (h:IE w base u0 u1 u2 u3 u4 u5 u6 p):Qi w base w.heap.size u0 u1 u2 u3 u4 u5 u6 p:=fun V hs hk=>h V ⟨hs,hk⟩
theorem Qi.to {hi:Nat} (h:Qi w base hi u0 u1 u2 u3 u4 u5 u6 p) (hs:w.heap.size<=V.heap.size) (hk:∀ j,base<=j->j<hi->V.heap[j]?=w.heap[j]?):Qi V base hi u0 u1 u2 u3 u4 u5 u6 p:=
 fun U h1 h2=>h U (A1 hs h1) (fun j a b=>(h2 j a b).trans (hk j a b))
theorem Qi.UG {hi:Nat} (h:Qi w base hi u0 u1 u2 u3 u4 u5 u6 p) (hh:hi<=w.heap.size):IE w base u0 u1 u2 u3 u4 u5 u6 p:=fun V hu=>h V hu.1 (fun j a b=>hu.2 j a (by omega))
structure LP (w W:World) (rb q g2 g3 g5:Nat) (v0 v1 v2 v3:Value) (p:aH) (u0 u1 u2 u3 u4 u5 u6:Value):Prop where
 l:L0 w W rb q g2 g3 v0 v1 v2 v3
 x5:BX W g5 130 [u0,u1,u2,u3,u4,u5,u6,I_ p.hand,I_ p.limit]
 f:∃ base hi,g3<base/\(g5<base\/hi<=g5)/\hi<=W.heap.size/\Qi W base hi u0 u1 u2 u3 u4 u5 u6 p
 ok:bI p=true
 sl:Sl u0/\Sl u1/\Sl u2/\Sl u3/\Sl u4/\Sl u5/\Sl u6
 h5:g3<g5
theorem LP.pick (h:LP w W rb q g2 g3 g5 v0 v1 v2 v3 p u0 u1 u2 u3 u4 u5 u6) (hr:RD V rb q') (hg:W.grownBy V (some rb)):LP w V rb q' g2 g3 g5 v0 v1 v2 v3 p u0 u1 u2 u3 u4 u5 u6:=by
 obtain ⟨base,hi,h2,h3,h4,hk⟩:=h.f;have h1:=h.l.h;have h6:=h.h5;exact ⟨h.l.pick hr hg,(hg.block g5 h.x5.lt (by simp;omega)).trans h.x5,⟨base,hi,h2,h3,A1 h4 hg.size,hk.to hg.size (fun j a b=>hg.block j (by omega) (by simp;omega))⟩,h.ok,h.sl,h.h5⟩
theorem LP.below (h:LP w W rb q g2 g3 g5 v0 v1 v2 v3 p u0 u1 u2 u3 u4 u5 u6) (hb:Below W.heap.size W V):LP w V rb q g2 g3 g5 v0 v1 v2 v3 p u0 u1 u2 u3 u4 u5 u6:=
 h.pick (h.l.r.keep hb) (grown_below hb ⟨hb.os,hb.tape,hb.output⟩)
theorem LP.rp (h:LP w W rb q g2 g3 g5 v0 v1 v2 v3 p u0 u1 u2 u3 u4 u5 u6):RP W u0 u1 u2 u3 u4 u5 u6 p:=by
 obtain ⟨base,hi,h2,h3,h4,hk⟩:=h.f;exact hk W aW (fun _ _ _=>rfl)
theorem LP.set (h:LP w W rb q g2 g3 g5 v0 v1 v2 v3 p u0 u1 u2 u3 u4 u5 u6) {z0 z1 z2 z3 z4 z5 z6:Value} (hs:Sl z0/\Sl z1/\Sl z2/\Sl z3/\Sl z4/\Sl z5/\Sl z6) (hg:g5<base) (hk:IE W base z0 z1 z2 z3 z4 z5 z6 p') (hok:bI p'=true) :
  LP w (sets W g5 0 [z0,z1,z2,z3,z4,z5,z6,I_ p'.hand,I_ p'.limit]) rb q g2 g3 g5 v0 v1 v2 v3 p' z0 z1 z2 z3 z4 z5 z6:=
 ⟨h.l.jb h.h5 _,h.x5.sets _ rfl,⟨base,W.heap.size,by have:=h.h5;omega,.inl hg,by rw [jB];exact A3 _,hk.r.to (by rw [jB];exact A3 _) (fun j a _=>mG _ _ (by omega) _ _)⟩,hok,hs,h.h5⟩
theorem LP.WH (h:LP w W rb q g2 g3 g5 v0 v1 v2 v3 p u0 u1 u2 u3 u4 u5 u6) (hok:az p.k=true):LK w (sets W g3 0 [u0,u1,u2,u3]) rb q g2 g3 p.k u0 u1 u2 u3:=by
 obtain ⟨base,hi,h2,h3,h4,hk⟩:=h.f;exact h.l.lQ ⟨h.sl.1,h.sl.2.1,h.sl.2.2.1,h.sl.2.2.2.1⟩ h2 (hk.UG h4).MQ hok
end
theorem Kv {k:Kx.Kernel} (h:az k=true) (c:Kx.Call) {e:Nat} (he:c.env=(e:Int)) (h3:e<3):az (cO k c).1=true:=by
 exact nN.2 ((nN.1 h).cO c (by rw [he];exact Kx.ay.2 (by omega)))
theorem Kw {p:aH} (h:bI p=true) {a:Nat} (ha:a<64) {x:Int} (hx:Kx.bK x 0 9999=true):bI (iM p a x).1=true:=by
 exact iD.2 ((iD.1 h).store (Kx.ay.2 (by omega)) hx)
theorem FN {l:Int} (h:Kx.bK l 1 6=true):bI (lS l).1=true:=by
 exact Kx.FN l h
def Qj (rb p n:Nat) (w:World) (en:Ending) (w':World):Prop:=∃ (k:Kx.Kernel) (um ui ue uc:Value) (base:Nat),en=.returned (.agg #[um,ui,ue,uc])/\(Sl um/\Sl ui/\Sl ue/\Sl uc)/\az k=true/\w.heap.size<=base/\Fa w' base um ui ue uc k/\nP rb p n w w'
theorem Dx (rb p:Nat) (w:World) (h:RD w rb p) (hp:p<=600000) :
  Calls prog 57 #[.pointer (some ⟨rb,0,none⟩)] w (Qj rb p 1000 w):=by
 have hrb:=h.lt;obtain ⟨w1,hw1⟩:=XP (w.alloc (.cells #[A0 none 0 0,A0 none 0 0,A0 none 0 0,A0 none 0 0] 28));obtain ⟨w2,hw2⟩:=XP (w1.alloc (.cells #[.string ⟨#[97]⟩] 9));obtain ⟨w3,hw3⟩:=XP (w2.alloc (.cells #[.string ⟨#[98]⟩,.string ⟨#[97]⟩,.string ⟨#[97,98]⟩,.string ⟨#[]⟩] 9));have B1:Below w.heap.size w w1:=hw1 ▸ dm;have B2:Below w1.heap.size w1 w2:=hw2 ▸ dm;have B3:Below w2.heap.size w2 w3:=hw3 ▸ dm;have s1:w.heap.size<w1.heap.size:=by rw [<-hw1];simp
 have s2:w1.heap.size<w2.heap.size:=by rw [<-hw2];simp
 have s3:w2.heap.size<w3.heap.size:=by rw [<-hw3];simp
 have Bw:Below w.heap.size w w3:=B1.trans ((B2.trans (B3.mono B2.size)).mono B1.size);have Hr:=af (h.keep Bw);have Hg:=af (grown_below (rb:=rb) Bw ⟨Bw.os,Bw.tape,Bw.output⟩);have hX2:=af (show BX w3 w.heap.size 28 [A0 none 0 0,A0 none 0 0,A0 none 0 0,A0 none 0 0] from ((hw1 ▸ BX.new w _ _:BX w1 _ _ _).below B2).below B3);have hA:=af (show dK w3 (A0 (some ⟨w1.heap.size,0,none⟩) 1 1) [⟨#[97]⟩] from RS.below (hw2 ▸ RS.one (f:=df) ⟨#[97]⟩ #[.string ⟨#[97]⟩] rfl w1 _:RS df 1 w2 _ _) B3);have hL:=(hw3 ▸ OS.lit (l:=yO) (f:=df) (sz:=1) (e:=9) (w:=w2) (base:=0) (A2 _) #[.string ⟨#[98]⟩,.string ⟨#[97]⟩,.string ⟨#[97,98]⟩,.string ⟨#[]⟩] rfl rfl (by decide):OS df 1 9 w3 0 (A0 (some ⟨w2.heap.size,0,none⟩) 4 4) yO).rs
 have HC:=af (JY rb p yO (A0 (some ⟨w2.heap.size,0,none⟩) 4 4) w3 Hr.o (by omega) hL (by decide) (by decide) (fun a n c e=>by simp only [Value.slice.injEq,A5] at e;obtain ⟨rfl,_⟩:=e;show w2.heap.size≠rb;omega));clear B1 B2 B3 Bw hL h;go_enter func57,ntmps57;go_wp2_with fail;refine HC.o.mono ?_;rintro en w4 ⟨s,hs,rfl,hr,hg⟩;replace Hr:=af hr;replace Hg:=af (grownBy_trans Hg.o hg);have YJ:=hg.size;replace hX2:=af (show BX w4 w.heap.size 28 [A0 none 0 0,A0 none 0 0,A0 none 0 0,A0 none 0 0] from (hg.block w.heap.size hX2.o.lt (by simp;omega)).trans hX2.o);have YK:dK w4 (A0 (some ⟨w1.heap.size,0,none⟩) 1 1) [⟨#[97]⟩]:=by
  refine ⟨by simp,.inr ⟨w1.heap.size,0,1,rfl,A3 _,by unfold maxLen;omega,by omega,fun k hk j u hu=>?_⟩⟩
  obtain ⟨b,off,cap,ev,hb,hc⟩:=hA.o.at (k:=k) hk;obtain ⟨⟨rfl,rfl,_⟩,_,rfl⟩:=Zb ev;clear ev;have hk0:k=0:=by simp at hk;exact hk
  subst hk0
  cases j with
  | zero =>
   simp only [df,List.getElem_cons_zero,List.getElem?_cons_zero,A5] at hu;subst hu;have:=(World.cell?_of_block (hg.block w1.heap.size hb (by simp;omega)) (a:=⟨w1.heap.size,0+0,none⟩)).trans hc;simpa using this
  | succ j=>simp [df] at hu
 obtain ⟨w5,hw5⟩:=XP (w4.alloc (.cells #[.string s] 9));obtain ⟨w6,hw6⟩:=XP (w5.alloc (.cells #[.string ⟨#[99]⟩] 9));obtain ⟨w7,hw7⟩:=XP (w6.alloc (.cells #[A0 (some ⟨w1.heap.size,0,none⟩) 1 1,A0 (some ⟨w4.heap.size,0,none⟩) 1 1,A0 (some ⟨w5.heap.size,0,none⟩) 1 1] 41));have hM:=TN YK hw5 hw6 hw7;have B5:Below w4.heap.size w4 w5:=hw5 ▸ dm;have B6:Below w5.heap.size w5 w6:=hw6 ▸ dm;have B7:Below w6.heap.size w6 w7:=hw7 ▸ dm;have Bv:Below w4.heap.size w4 w7:=B5.trans ((B6.trans (B7.mono B6.size)).mono B5.size);have YL:=af (wU [[⟨#[97]⟩],[s],[⟨#[99]⟩]] _ w7 hM rfl (zT s hs));have bF:=af (show az (jd [[⟨#[97]⟩],[s],[⟨#[99]⟩]])=true from II s hs);replace Hr:=af (Hr.o.keep Bv);replace Hg:=af (grownBy_trans Hg.o (grown_below (rb:=rb) Bv ⟨Bv.os,Bv.tape,Bv.output⟩))
 replace hX2:=af (hX2.o.below Bv);have hz7:=Bv.size;clear hr hg hM B5 B6 B7 Bv hA YK hs HC;go_wp2_with fail;refine YL.o.mono ?_;rintro en w8 ⟨k0,k1,k2,k3,rfl,hko,hb⟩;obtain ⟨⟨a0,n0,m0,rfl⟩,⟨a1,n1,m1,rfl⟩,⟨a2,n2,m2,rfl⟩,⟨a3,n3,m3,rfl⟩⟩:=hko.sl;have Yg:=hb.size;obtain ⟨w9,JX⟩:=XP (w8.alloc (.cells #[A0 a0 n0 m0,A0 a1 n1 m1,A0 a2 n2 m2,A0 a3 n3 m3] 28));have B9:Below w8.heap.size w8 w9:=JX ▸ dm;have H:=af (show LK w w9 rb (p+1) w.heap.size w8.heap.size (jd [[⟨#[97]⟩],[s],[⟨#[99]⟩]]) (A0 a0 n0 m0) (A0 a1 n1 m1) (A0 a2 n2 m2) (A0 a3 n3 m3) from
  ⟨⟨(Hr.o.keep hb).keep B9,grownBy_trans (grownBy_trans Hg.o (grown_below (rb:=rb) hb ⟨hb.os,hb.tape,hb.output⟩)) (grown_below (rb:=rb) B9 ⟨B9.os,B9.tape,B9.output⟩),(hX2.o.below hb).below B9,JX ▸ BX.new w8 _ _,⟨⟨_,_,_,rfl⟩,⟨_,_,_,rfl⟩,⟨_,_,_,rfl⟩,⟨_,_,_,rfl⟩⟩,by omega⟩,
   ⟨w7.heap.size,w8.heap.size,by omega,.inr aW,B9.size,hko.MQ.r.to B9.size (fun j _ b=>B9.block j b)⟩,bF.o⟩)
 have IM:w.heap.size<w8.heap.size:=by omega
 clear hko hb YL B9 Hr Hg hX2 bF;go_wp2_with fail
 try rw [JX]
 refine (afo 5 H.o.l.r).mono ?_;rintro en w10 ⟨x,rfl,x0,x1,hr,hg⟩;replace H:=af (H.o.pick hr hg);generalize jd [[⟨#[97]⟩],[s],[⟨#[99]⟩]]=k0 at H;clear hr hg hw1 hw2 hw3 hw5 hw6 hw7 JX;go_upto_if 24 with fail;go_cut [5,6,7,8] from 11 (fun _ _ _ _ wx=>∃ (q:Nat) (k:Kx.Kernel) (v0 v1 v2 v3:Value),q<=p+12/\TI (LK w wx rb q w.heap.size w8.heap.size k v0 v1 v2 v3))
 case first =>
  by_cases hx:x=0
  ·subst hx;go_wp2_with fail;go_meet;exact ⟨_,_,_,_,_,_,by omega,H⟩
  have hx1:0<x:=by omega
  clear hx;go_wp2_with fail;refine (afo 3 H.o.l.r).mono ?_;rintro en UR ⟨y,rfl,y0,y1,hr,hg⟩;replace H:=af (H.o.pick hr hg);clear hr hg;obtain ⟨P,hP⟩:=XP ((lS (1+y)).1);have hin:Kx.bK (1+y) 1 6=true:=Kx.ay.2 ⟨by omega,by omega⟩;have YM:=af (show bI P=true from hP ▸ FN hin);have HC:=af (show Calls prog 107 #[I_ (1+y)] UR (Gs UR P [.bool true]) from hP ▸ FO (1+y) UR hin);clear hP hin;go_wp2_with fail;refine HC.o.mono ?_;rintro en w12 ⟨u0,u1,u2,u3,u4,u5,u6,rfl,Nw,hb⟩;unfold bU;obtain ⟨⟨b0,xN,wL,rfl⟩,⟨b1,zH,xC,rfl⟩,⟨b2,wM,qB,rfl⟩,⟨b3,zI,zJ,rfl⟩,⟨b4,UT,UW,rfl⟩,⟨b5,UX,UY,rfl⟩,⟨b6,UZ,U8,rfl⟩⟩:=Nw.rp.sl;have PM:=hb.size;have PN:=H.o.l.x3.lt
  obtain ⟨YN,Ny⟩:=XP (w12.alloc (.cells #[A0 b0 xN wL,A0 b1 zH xC,A0 b2 wM qB,A0 b3 zI zJ,A0 b4 UT UW,A0 b5 UX UY,A0 b6 UZ U8,I_ P.hand,I_ P.limit] 130));have TP:Below w12.heap.size w12 YN:=Ny ▸ dm;have HP:=af (show LP w YN rb _ w.heap.size w8.heap.size w12.heap.size _ _ _ _ P (A0 b0 xN wL) (A0 b1 zH xC) (A0 b2 wM qB) (A0 b3 zI zJ) (A0 b4 UT UW) (A0 b5 UX UY) (A0 b6 UZ U8) from
   ⟨(H.o.l.below hb).below TP,Ny ▸ BX.new w12 _ _,⟨UR.heap.size,w12.heap.size,by omega,.inr aW,TP.size,Nw.r.to TP.size (fun j _ b=>TP.block j b)⟩,YM.o,Nw.rp.sl,by omega⟩)
  clear Nw hb HC TP YM H;go_wp2_with fail
  try rw [Ny]
  refine (afo 4 HP.o.l.r).mono ?_;rintro en w14 ⟨n,rfl,hn0,hn1,hr,hg⟩;replace HP:=af (HP.o.pick hr hg);obtain ⟨n,rfl⟩:=A4 hn0;clear hr hg Ny hx1 y0 y1;obtain ⟨g5,hg5⟩:=XP w12.heap.size;rw [hg5] at HP ⊢;clear hg5 PM PN;go_wp2_with fail;go_loopw [8] (fun i wr=>∃ (j q:Nat) (P:aH) (u0 u1 u2 u3 u4 u5 u6:Value),i=I_ j/\j<=n/\q<=p+4+2*j/\TI (LP w wr rb q w.heap.size w8.heap.size g5 (A0 a0 n0 m0) (A0 a1 n1 m1) (A0 a2 n2 m2) (A0 a3 n3 m3) P u0 u1 u2 u3 u4 u5 u6)) (fun i _=>n - (intOf i).toNat)
  case atStart=>exact ⟨0,_,_,_,_,_,_,_,_,_,rfl,A2 _,by omega,HP⟩
  case round =>
   clear HP;obtain ⟨j,q,P,u0,u1,u2,u3,u4,u5,u6,rfl,hj,hq,HP⟩:=hrel;obtain ⟨⟨b0,xN,wL,rfl⟩,⟨b1,zH,xC,rfl⟩,⟨b2,wM,qB,rfl⟩,⟨b3,zI,zJ,rfl⟩,⟨b4,UT,UW,rfl⟩,⟨b5,UX,UY,rfl⟩,⟨b6,UZ,U8,rfl⟩⟩:=HP.o.sl
   by_cases hlt:j<n
   ·have kQ:(j:Int)<(n:Int):=by omega
    obtain ⟨d,hd⟩:=XP wr.drew;have Bd:Below wr.heap.size wr d:=hd ▸ Below.bz fZ;have Hd:=af hd;replace HP:=af (HP.o.below Bd);clear hd Bd;go_wp2_with fail;refine uu (S:=(fun U:World=>U.cell? ⟨g5,0,none⟩=some (A0 b0 xN wL)/\U.cell? ⟨g5,1,none⟩=some (A0 b1 zH xC)/\U.cell? ⟨g5,2,none⟩=some (A0 b2 wM qB)/\U.cell? ⟨g5,3,none⟩=some (A0 b3 zI zJ)/\U.cell? ⟨g5,4,none⟩=some (A0 b4 UT UW)/\U.cell? ⟨g5,5,none⟩=some (A0 b5 UX UY)/\U.cell? ⟨g5,6,none⟩=some (A0 b6 UZ U8)/\U.cell? ⟨g5,7,none⟩=some (I_ P.hand)/\U.cell? ⟨g5,8,none⟩=some (I_ P.limit))) (xs:=[10]) (by kernel_rfl) (by rw [Hd.o];exact HP.o.x5.c9) (fun hHeld=>?_)
    rw [Hd.o];rw [Hd.o] at hHeld;refine tL 0 ?_;refine tP 1 ?_;refine tP 3 ?_;refine aho 2 fun K hK=>?_;go_simp;go_at_call 31;refine (afo 64 HP.o.l.r).mono ?_;rintro en V1 ⟨xa,rfl,xa0,UE,hr,hg⟩;have H1:=af (HP.o.pick hr hg);obtain ⟨ad,rfl⟩:=A4 xa0;clear hr hg;refine afX hK H1.o.x5.c9 fun hHeld=>?_
    clear hK K;refine aho 4 fun K hK=>?_;go_simp;go_at_call 31;refine (afo 99 H1.o.l.r).mono ?_;rintro en V2 ⟨xb,rfl,ZU,ZV,hr,hg⟩;have H2:=af (H1.o.pick hr hg);clear hr hg;refine afX hK H2.o.x5.c9 fun hHeld=>?_
    clear hK K;have hwr:IntKind.i64.wrap (1+xb)=1+xb:=IntWalk.i64_in _ (by omega);refine tP 5 ?_;clear hwr;refine aho 6 fun K hK=>?_;go_simp;obtain ⟨P2,hP2⟩:=XP ((iM P ad (1+xb)).1);have hwd:Kx.bK (1+xb) 0 9999=true:=Kx.ay.2 ⟨by omega,by omega⟩;have WI:=af (show bI P2=true from hP2 ▸ Kw H2.o.ok (by omega) hwd);have HC:=af (hP2 ▸ BO P ad (1+xb) _ _ _ _ _ _ _ V2 H2.o.rp H2.o.ok (by omega) hwd);unfold bU at HC;clear hP2 hwd;go_at_call 108;refine HC.o.mono ?_;rintro en V3 ⟨z0,z1,z2,z3,z4,z5,z6,rfl,Nw,hb⟩;have H3:=af (H2.o.below hb);have hg5:=H2.o.x5.lt;unfold bU;obtain ⟨⟨e0,en0,eQ,rfl⟩,⟨e1,eU,eX,rfl⟩,⟨e2,eY,fA,rfl⟩,⟨e3,fB,fC,rfl⟩,⟨e4,WJ,WL,rfl⟩,⟨e5,WM,WN,rfl⟩,⟨e6,WO,WQ,rfl⟩⟩:=Nw.rp.sl;clear hb HC;refine afX hK H3.o.x5.c9 fun hHeld=>?_
    clear hK K;refine tP 7 ?_;refine tP 8 ?_;refine tP 9 ?_;obtain ⟨c0,c1,c2,c3,c4,c5,c6,c7,c8⟩:=H3.o.x5.c9;obtain ⟨y0,y1,y2,y3,y4,y5,y6,y7,y8⟩:=H3.o.x5.f9;refine ahp 10 fun K hK=>?_;go_simp;refine hK.out _ _ ?_;clear hK K;refine nL ?_;refine gY (by kernel_rfl) ?_ _;obtain ⟨V4,FP⟩:=XP (sets V3 g5 0 [A0 e0 en0 eQ,A0 e1 eU eX,A0 e2 eY fA,A0 e3 fB fC,A0 e4 WJ WL,A0 e5 WM WN,A0 e6 WO WQ,I_ P2.hand,I_ P2.limit])
    rw [afC V3,FP];have HP4:=af (show LP w V4 rb _ w.heap.size w8.heap.size g5 _ _ _ _ P2 (A0 e0 en0 eQ) (A0 e1 eU eX) (A0 e2 eY fA) (A0 e3 fB fC) (A0 e4 WJ WL) (A0 e5 WM WN) (A0 e6 WO WQ) from FP ▸ H3.o.set Nw.rp.sl hg5 Nw WI.o);clear FP Nw c0 c1 c2 c3 c4 c5 c6 c7 c8 y0 y1 y2 y3 y4 y5 y6 y7 y8 HP H1 H2 H3 Hd hg5;go_wp2_with fail;go_roundw
    case rel=>exact ⟨j+1,_,_,_,_,_,_,_,_,_,by go_num,by omega,by omega,HP4⟩
    case measure=>simp [intOf];omega
   obtain rfl:j=n:=by omega
   obtain ⟨c0,c1,c2,c3,c4,c5,c6,c7,c8⟩:=HP.o.x5.c9;have r0:=HP.o.l.x3.c4;have jh:=HP.o.l.x3.f4;have hok:=(fM HP.o.ok).1;go_wp2_with fail;go_meet;exact ⟨_,_,_,_,_,_,by omega,af (HP.o.WH hok)⟩
 case rest =>
  clear H;obtain ⟨q,k,v0,v1,v2,v3,hq,H⟩:=hcut;go_wp2_with fail;refine (afo 24 H.o.l.r).mono ?_;rintro en w15 ⟨n,rfl,hn0,hn1,hr,hg⟩;replace H:=af (H.o.pick hr hg);obtain ⟨n,rfl⟩:=A4 hn0;clear hr hg;go_wp2_with fail;go_loopw [10] (fun i wr=>∃ (j q:Nat) (k:Kx.Kernel) (v0 v1 v2 v3:Value),i=I_ j/\j<=n/\q<=p+14+30*j/\TI (LK w wr rb q w.heap.size w8.heap.size k v0 v1 v2 v3)) (fun i _=>n - (intOf i).toNat)
  case atStart=>exact ⟨0,_,_,_,_,_,_,rfl,A2 _,by omega,H⟩
  case round =>
   clear H;obtain ⟨j,q,k,v0,v1,v2,v3,rfl,hj,hq,H⟩:=hrel;obtain ⟨⟨a0,n0,m0,rfl⟩,⟨a1,n1,m1,rfl⟩,⟨a2,n2,m2,rfl⟩,⟨a3,n3,m3,rfl⟩⟩:=H.o.l.sl
   by_cases hlt:j<n
   ·have kQ:(j:Int)<(n:Int):=by omega
    obtain ⟨d,hd⟩:=XP wr.drew;have Bd:Below wr.heap.size wr d:=hd ▸ Below.bz fZ;have Hd:=af hd;replace H:=af (H.o.below Bd);obtain ⟨_,_,h12,_⟩:=aI H.o.ok;have fJ:=af h12;clear hd Bd h12;go_wp2_with fail;refine uu (S:=(fun U:World=>U.cell? ⟨w8.heap.size,0,none⟩=some (A0 a0 n0 m0)/\U.cell? ⟨w8.heap.size,1,none⟩=some (A0 a1 n1 m1)/\U.cell? ⟨w8.heap.size,2,none⟩=some (A0 a2 n2 m2)/\U.cell? ⟨w8.heap.size,3,none⟩=some (A0 a3 n3 m3))) (xs:=[9]) (by kernel_rfl) (by rw [Hd.o];exact H.o.l.x3.c4) (fun hHeld=>?_)
    rw [Hd.o];rw [Hd.o] at hHeld;refine tL 0 ?_;refine tP 1 ?_;refine tL 2 ?_;refine aho 3 fun K hK=>?_;go_simp;go_at_call 30;refine (Ij rb _ k.ag _ _ _ _ _ H.o.l.r (by omega) H.o.ag fJ.o).mono ?_;rintro en V1 ⟨c,e,rfl,hce,he,hnm,-,q1,hq1,hr,hg⟩;have H1:=af (H.o.pick hr hg);obtain ⟨r,hrr⟩:=XP (cO k c);have Ky:=af (show az r.1=true from hrr ▸ Kv H1.o.ok c hce he);have HC:=af (hrr ▸ Ap k c e _ _ _ _ V1 H1.o.rk H1.o.ok (jX H1.o.ok) hce he (by omega));have RG:=af H1.o.l.x3.lt;clear hr hg hrr hce he hnm;refine afX hK H1.o.l.x3.c4 fun hHeld=>?_
    clear hK K;refine aho 4 fun K hK=>?_;go_simp;go_at_call 37;refine HC.o.mono ?_;rintro en V2 ⟨z0,z1,z2,z3,rfl,ho,hb⟩;have H2:=af (H1.o.below hb);obtain ⟨⟨d0,WR,WS,rfl⟩,⟨d1,WT,WU,rfl⟩,⟨d2,WV,WW,rfl⟩,⟨d3,WX,WY,rfl⟩⟩:=ho.sl;clear hb HC;refine afX hK H2.o.l.x3.c4 fun hHeld=>?_
    clear hK K;refine tP 5 ?_;refine tP 6 ?_;refine tP 7 ?_;refine tP 8 ?_;have r0:=H2.o.l.x3.c4;have jh:=H2.o.l.x3.f4;refine ahp 9 fun K hK=>?_;go_simp;refine hK.out _ _ ?_;clear hK K;refine nL ?_;refine gY (by kernel_rfl) ?_ _;obtain ⟨V3,Fv⟩:=XP (sets V2 w8.heap.size 0 [A0 d0 WR WS,A0 d1 WT WU,A0 d2 WV WW,A0 d3 WX WY]);rw [afA V2,Fv]
    have H3:=af (show LK w V3 rb _ w.heap.size w8.heap.size r.1 (A0 d0 WR WS) (A0 d1 WT WU) (A0 d2 WV WW) (A0 d3 WX WY) from Fv ▸ H2.o.l.lQ ⟨⟨_,_,_,rfl⟩,⟨_,_,_,rfl⟩,⟨_,_,_,rfl⟩,⟨_,_,_,rfl⟩⟩ RG.o ho.MQ Ky.o);clear Fv ho r0 jh H H1 H2 Hd RG Ky;go_wp2_with fail;go_roundw
    case rel=>exact ⟨j+1,_,_,_,_,_,_,by go_num,by omega,by omega,H3⟩
    case measure=>simp [intOf];omega
   obtain rfl:j=n:=by omega
   obtain ⟨base,hbase,hko,hrd,hgr,hbx⟩:=H.o.fin;have tZ:=af hko;have Oe:=af hrd;have JD:=af hgr;have jF:=af hbx;have bF:=af H.o.ok;have aC:=af hbase;obtain ⟨c0,c1,c2,c3⟩:=H.o.l.x3.c4;have r0:=H.o.l.x2.c4;have jh:=H.o.l.x2.f4;clear hko hrd hgr hbx hbase;go_wp2_with fail;obtain ⟨F,hF⟩:=XP (sets wr w.heap.size 0 [A0 a0 n0 m0,A0 a1 n1 m1,A0 a2 n2 m2,A0 a3 n3 m3]);rw [afA wr,hF];rw [hF] at tZ Oe JD jF;refine af7 (by simp [results,results57,go_sem,jF.o.c4]<;>rfl) ?_
   exact ⟨k,_,_,_,_,base,rfl,⟨⟨_,_,_,rfl⟩,⟨_,_,_,rfl⟩,⟨_,_,_,rfl⟩,⟨_,_,_,rfl⟩⟩,bF.o,Nat.le_of_lt aC.o,tZ.o,q,by omega,Oe.o,JD.o⟩
end Go.Proofs.YtecnmehlbfklnaaGreatDoor
