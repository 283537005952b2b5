/- KD17, KD18, joined. -/
import Derived.Test.YtliebkfligagnaaGreatDoorKD16
set_option maxHeartbeats 8000000
set_option maxRecDepth 100000
set_option linter.all false
namespace Go.Proofs.YtliebkfligagnaaGreatDoor
open Go.RowKit
theorem TN {W W1 W2 W3:World} {a b c:Kx.Str} {g:Nat} (h0:dK W (.slice (some ⟨g,0,none⟩) 1 1) [a]) (e1:W.alloc (.cells #[.string b] 9)=W1) (e2:W1.alloc (.cells #[.string c] 9)=W2)
  (e3:W2.alloc (.cells #[.slice (some ⟨g,0,none⟩) 1 1,.slice (some ⟨W.heap.size,0,none⟩) 1 1,.slice (some ⟨W1.heap.size,0,none⟩) 1 1] 62)=W3) :
  OD W3 (.slice (some ⟨W2.heap.size,0,none⟩) 3 3) [[a],[b],[c]]:=by
 have q2:RS df 1 W1 (.slice (some ⟨W.heap.size,0,none⟩) 1 1) [b]:=e1 ▸ RS.one (f:=df) b #[.string b] rfl W _;have q3:RS df 1 W2 (.slice (some ⟨W1.heap.size,0,none⟩) 1 1) [c]:=e2 ▸ RS.one (f:=df) c #[.string c] rfl W1 _;have b1:Below W.heap.size W W1:=e1 ▸ dm;have b2:Below W1.heap.size W1 W2:=e2 ▸ dm;have b3:Below W2.heap.size W2 W3:=e3 ▸ dm;have hc:BX W3 W2.heap.size 62 [.slice (some ⟨g,0,none⟩) 1 1,.slice (some ⟨W.heap.size,0,none⟩) 1 1,.slice (some ⟨W1.heap.size,0,none⟩) 1 1]:=e3 ▸ BX.new W2 _ _;refine ⟨[.slice (some ⟨g,0,none⟩) 1 1,.slice (some ⟨W.heap.size,0,none⟩) 1 1,.slice (some ⟨W1.heap.size,0,none⟩) 1 1],rfl,⟨by simp,.inr ⟨W2.heap.size,0,3,rfl,Nat.le_refl _,by unfold maxLen;omega,hc.lt,fun k hk j u hu=>?_⟩⟩,fun i h h'=>?_⟩
 ·have hj:j=0:=by
   cases j with
   | zero=>rfl
   | succ j=>simp [yL] at hu
  subst hj;simp only [List.length_cons,List.length_nil] at hk;have:=hc.cell k;rw [show (0:Nat)+k*1+0=k by omega];rw [this];simpa [yL,hk] using hu
 simp only [List.length_cons,List.length_nil] at h;have hi:i=0∨i=1∨i=2:=by omega
 rcases hi with rfl | rfl | rfl
 ·exact RS.below (RS.below (RS.below h0 b1) b2) b3
 ·exact RS.below (RS.below q2 b2) b3
 exact RS.below q3 b3
def yO:List Kx.Str:=[⟨#[98]⟩,⟨#[97]⟩,⟨#[97,98]⟩,⟨#[]⟩]
theorem II:∀ s ∈ yO,Kx.az (Kx.jd [[Kx.sA],[s],[Kx.sC]])=true:=by decide +kernel
theorem zT:∀ s ∈ yO,∀ r ∈ [[Kx.sA],[s],[Kx.sC]],Kx.aS r=true:=by decide
def Fa (w:World) (base:Nat) (um ui ue uc:Value) (k:Kx.Kernel):Prop:=∀ V,Up base w V→RK V um ui ue uc k
section
variable {w W V:World} {base rb q q' g2 g3 g5:Nat} {um ui ue uc us ul uq v0 v1 v2 v3 u0 u1 u2 u3 u4 u5 u6:Value} {k k':Kx.Kernel} {p p':Kx.aH}
theorem Fa.rk (h:Fa w base um ui ue uc k):RK w um ui ue uc k:=h w (Up.refl _ _)
theorem Fa.up (h:Fa w base um ui ue uc k) (hu:Up base w V):Fa V base um ui ue uc k:=fun U h'=>h U (hu.trans h')
theorem KO.MQ (h:KO w base um ui ue uc k):Fa w base um ui ue uc k:=fun _ hu=>(h.up hu).rk
theorem IE.MQ (h:IE w base um ui ue uc us ul uq p):Fa w base um ui ue uc p.k:=fun V hu=>(h V hu).k
theorem Up.mono {b b':Nat} (h:Up b w V) (hb:b≤b'):Up b' w V:=⟨h.1,fun k h1 h2=>h.2 k (Nat.le_trans hb h1) h2⟩
structure L0 (w W:World) (rb q g2 g3:Nat) (v0 v1 v2 v3:Value):Prop where
 r:RD W rb q
 g:w.grownBy W (some rb)
 x2:BX W g2 36 [.slice none 0 0,.slice none 0 0,.slice none 0 0,.slice none 0 0]
 x3:BX W g3 36 [v0,v1,v2,v3]
 sl:Sl v0∧Sl v1∧Sl v2∧Sl v3
 h:rb<w.heap.size∧w.heap.size≤g2∧g2<g3
theorem L0.pick (h:L0 w W rb q g2 g3 v0 v1 v2 v3) (hr:RD V rb q') (hg:W.grownBy V (some rb)):L0 w V rb q' g2 g3 v0 v1 v2 v3:=
 ⟨hr,grownBy_trans h.g hg,(hg.block g2 h.x2.lt (by have:=h.h;simp;omega)).trans h.x2,(hg.block g3 h.x3.lt (by have:=h.h;simp;omega)).trans h.x3,h.sl,h.h⟩
theorem L0.below (h:L0 w W rb q g2 g3 v0 v1 v2 v3) (hb:Below W.heap.size W V):L0 w V rb q g2 g3 v0 v1 v2 v3:=
 h.pick (h.r.keep hb) (grown_below hb ⟨hb.os,hb.tape,hb.output⟩)
theorem L0.RQ (h:L0 w W rb q g2 g3 v0 v1 v2 v3) (hs:Sl u0∧Sl u1∧Sl u2∧Sl u3):L0 w (sets W g3 0 [u0,u1,u2,u3]) rb q g2 g3 u0 u1 u2 u3:=by
 obtain ⟨h1,h2⟩:=mi (w:=w) (g:=g3) (by have:=h.h;omega) (by have:=h.h;omega) [u0,u1,u2,u3] 0 h.r h.g;exact ⟨h1,h2,BX.iq (by have:=h.h;omega) _ 0 h.x2,h.x3.sets _ rfl,hs,h.h⟩
theorem L0.jb (h:L0 w W rb q g2 g3 v0 v1 v2 v3) (h5:g3<g5) (l:List Value):L0 w (sets W g5 0 l) rb q g2 g3 v0 v1 v2 v3:=by
 obtain ⟨h1,h2⟩:=mi (w:=w) (g:=g5) (by have:=h.h;omega) (by have:=h.h;omega) l 0 h.r h.g;exact ⟨h1,h2,BX.iq (by have:=h.h;omega) _ 0 h.x2,BX.iq (by omega) _ 0 h.x3,h.sl,h.h⟩
def MP (w:World) (base hi:Nat) (um ui ue uc:Value) (k:Kx.Kernel):Prop:=∀ V:World,w.heap.size≤V.heap.size→(∀ j,base≤j→j<hi→V.heap[j]?=w.heap[j]?)→RK V um ui ue uc k
theorem Fa.r (h:Fa w base um ui ue uc k):MP w base w.heap.size um ui ue uc k:=fun V hs hk=>h V ⟨hs,hk⟩
theorem MP.to {hi:Nat} (h:MP w base hi um ui ue uc k) (hs:w.heap.size≤V.heap.size) (hk:∀ j,base≤j→j<hi→V.heap[j]?=w.heap[j]?):MP V base hi um ui ue uc k:=
 fun U h1 h2=>h U (Nat.le_trans hs h1) (fun j a b=>(h2 j a b).trans (hk j a b))
theorem MP.MQ {hi:Nat} (h:MP w base hi um ui ue uc k) (hh:hi≤w.heap.size):Fa w base um ui ue uc k:=fun V hu=>h V hu.1 (fun j a b=>hu.2 j a (by omega))
theorem jB (g:Nat) (l:List Value):∀ (i:Nat) (w:World),(sets w g i l).heap.size=w.heap.size:=by
 induction l with
 | nil=>intro i w;rfl
 | cons v l ih=>intro i w;exact (ih (i+1) _).trans (by simp [World.setCell])
theorem mG (g:Nat) (l:List Value) {j:Nat} (hj:j≠g):∀ (i:Nat) (w:World),(sets w g i l).heap[j]?=w.heap[j]?:=by
 induction l with
 | nil=>intro i w;rfl
 | cons v l ih=>intro i w;exact (ih (i+1) _).trans (Below.heap_setCell _ _ _ _ hj)
structure LK (w W:World) (rb q g2 g3:Nat) (k:Kx.Kernel) (v0 v1 v2 v3:Value):Prop where
 l:L0 w W rb q g2 g3 v0 v1 v2 v3
 f:∃ base hi,g2<base∧(g3<base∨hi≤g3)∧hi≤W.heap.size∧MP W base hi v0 v1 v2 v3 k
 ok:Kx.az k=true
theorem LK.pick (h:LK w W rb q g2 g3 k v0 v1 v2 v3) (hr:RD V rb q') (hg:W.grownBy V (some rb)):LK w V rb q' g2 g3 k v0 v1 v2 v3:=by
 obtain ⟨base,hi,h2,h3,h4,hk⟩:=h.f;have h1:=h.l.h;exact ⟨h.l.pick hr hg,⟨base,hi,h2,h3,Nat.le_trans h4 hg.size,hk.to hg.size (fun j a b=>hg.block j (by omega) (by simp;omega))⟩,h.ok⟩
theorem LK.below (h:LK w W rb q g2 g3 k v0 v1 v2 v3) (hb:Below W.heap.size W V):LK w V rb q g2 g3 k v0 v1 v2 v3:=
 h.pick (h.l.r.keep hb) (grown_below hb ⟨hb.os,hb.tape,hb.output⟩)
theorem LK.rk (h:LK w W rb q g2 g3 k v0 v1 v2 v3):RK W v0 v1 v2 v3 k:=by
 obtain ⟨base,hi,h2,h3,h4,hk⟩:=h.f;exact hk W aW (fun _ _ _=>rfl)
theorem L0.lQ (h:L0 w W rb q g2 g3 v0 v1 v2 v3) (hs:Sl u0∧Sl u1∧Sl u2∧Sl u3) (hg:g3<base) (hk:Fa W base u0 u1 u2 u3 k') (hok:Kx.az k'=true):LK w (sets W g3 0 [u0,u1,u2,u3]) rb q g2 g3 k' u0 u1 u2 u3:=
 ⟨h.RQ hs,⟨base,W.heap.size,by have:=h.h;omega,.inl hg,by rw [jB];exact Nat.le_refl _,hk.r.to (by rw [jB];exact Nat.le_refl _) (fun j a _=>mG _ _ (by omega) _ _)⟩,hok⟩
theorem LK.ag (h:LK w W rb q g2 g3 k v0 v1 v2 v3):∀ V,W.grownBy V (some rb)→bV V v1 k.ag:=by
 obtain ⟨base,hi,h2,h3,h4,hk⟩:=h.f;have h1:=h.l.h;exact fun V hg=>(hk V hg.size (fun j a b=>hg.block j (by omega) (by simp;omega))).i
theorem LK.fin (h:LK w W rb q g2 g3 k v0 v1 v2 v3):∃ base,g2<base∧Fa (sets W g2 0 [v0,v1,v2,v3]) base v0 v1 v2 v3 k∧RD (sets W g2 0 [v0,v1,v2,v3]) rb q∧w.grownBy (sets W g2 0 [v0,v1,v2,v3]) (some rb)∧BX (sets W g2 0 [v0,v1,v2,v3]) g2 36 [v0,v1,v2,v3]:=by
 obtain ⟨base,hi,h2,h3,h4,hk⟩:=h.f;have h1:=h.l.h;obtain ⟨a,b⟩:=mi (w:=w) (g:=g2) (by omega) (by omega) [v0,v1,v2,v3] 0 h.l.r h.l.g;exact ⟨base,h2,(hk.to (by rw [jB];exact Nat.le_refl _) (fun j a _=>mG _ _ (by omega) _ _)).MQ (by rw [jB];exact h4),a,b,h.l.x2.sets _ rfl⟩
def Qi (w:World) (base hi:Nat) (u0 u1 u2 u3 u4 u5 u6:Value) (p:Kx.aH):Prop:=∀ V:World,w.heap.size≤V.heap.size→(∀ j,base≤j→j<hi→V.heap[j]?=w.heap[j]?)→RP V u0 u1 u2 u3 u4 u5 u6 p
theorem IE.r (h:IE w base u0 u1 u2 u3 u4 u5 u6 p):Qi w base w.heap.size u0 u1 u2 u3 u4 u5 u6 p:=fun V hs hk=>h V ⟨hs,hk⟩
theorem Qi.to {hi:Nat} (h:Qi w base hi u0 u1 u2 u3 u4 u5 u6 p) (hs:w.heap.size≤V.heap.size) (hk:∀ j,base≤j→j<hi→V.heap[j]?=w.heap[j]?):Qi V base hi u0 u1 u2 u3 u4 u5 u6 p:=
 fun U h1 h2=>h U (Nat.le_trans hs h1) (fun j a b=>(h2 j a b).trans (hk j a b))
theorem Qi.UG {hi:Nat} (h:Qi w base hi u0 u1 u2 u3 u4 u5 u6 p) (hh:hi≤w.heap.size):IE w base u0 u1 u2 u3 u4 u5 u6 p:=fun V hu=>h V hu.1 (fun j a b=>hu.2 j a (by omega))
structure LP (w W:World) (rb q g2 g3 g5:Nat) (v0 v1 v2 v3:Value) (p:Kx.aH) (u0 u1 u2 u3 u4 u5 u6:Value):Prop where
 l:L0 w W rb q g2 g3 v0 v1 v2 v3
 x5:BX W g5 168 [u0,u1,u2,u3,u4,u5,u6,.int .i64 p.hand,.int .i64 p.limit]
 f:∃ base hi,g3<base∧(g5<base∨hi≤g5)∧hi≤W.heap.size∧Qi W base hi u0 u1 u2 u3 u4 u5 u6 p
 ok:Kx.bI p=true
 sl:Sl u0∧Sl u1∧Sl u2∧Sl u3∧Sl u4∧Sl u5∧Sl u6
 h5:g3<g5
theorem LP.pick (h:LP w W rb q g2 g3 g5 v0 v1 v2 v3 p u0 u1 u2 u3 u4 u5 u6) (hr:RD V rb q') (hg:W.grownBy V (some rb)):LP w V rb q' g2 g3 g5 v0 v1 v2 v3 p u0 u1 u2 u3 u4 u5 u6:=by
 obtain ⟨base,hi,h2,h3,h4,hk⟩:=h.f;have h1:=h.l.h;have h6:=h.h5;exact ⟨h.l.pick hr hg,(hg.block g5 h.x5.lt (by simp;omega)).trans h.x5,⟨base,hi,h2,h3,Nat.le_trans h4 hg.size,hk.to hg.size (fun j a b=>hg.block j (by omega) (by simp;omega))⟩,h.ok,h.sl,h.h5⟩
theorem LP.below (h:LP w W rb q g2 g3 g5 v0 v1 v2 v3 p u0 u1 u2 u3 u4 u5 u6) (hb:Below W.heap.size W V):LP w V rb q g2 g3 g5 v0 v1 v2 v3 p u0 u1 u2 u3 u4 u5 u6:=
 h.pick (h.l.r.keep hb) (grown_below hb ⟨hb.os,hb.tape,hb.output⟩)
theorem LP.rp (h:LP w W rb q g2 g3 g5 v0 v1 v2 v3 p u0 u1 u2 u3 u4 u5 u6):RP W u0 u1 u2 u3 u4 u5 u6 p:=by
 obtain ⟨base,hi,h2,h3,h4,hk⟩:=h.f;exact hk W aW (fun _ _ _=>rfl)
theorem LP.set (h:LP w W rb q g2 g3 g5 v0 v1 v2 v3 p u0 u1 u2 u3 u4 u5 u6) {z0 z1 z2 z3 z4 z5 z6:Value} (hs:Sl z0∧Sl z1∧Sl z2∧Sl z3∧Sl z4∧Sl z5∧Sl z6) (hg:g5<base) (hk:IE W base z0 z1 z2 z3 z4 z5 z6 p') (hok:Kx.bI p'=true) :
  LP w (sets W g5 0 [z0,z1,z2,z3,z4,z5,z6,.int .i64 p'.hand,.int .i64 p'.limit]) rb q g2 g3 g5 v0 v1 v2 v3 p' z0 z1 z2 z3 z4 z5 z6:=
 ⟨h.l.jb h.h5 _,h.x5.sets _ rfl,⟨base,W.heap.size,by have:=h.h5;omega,.inl hg,by rw [jB];exact Nat.le_refl _,hk.r.to (by rw [jB];exact Nat.le_refl _) (fun j a _=>mG _ _ (by omega) _ _)⟩,hok,hs,h.h5⟩
theorem LP.WH (h:LP w W rb q g2 g3 g5 v0 v1 v2 v3 p u0 u1 u2 u3 u4 u5 u6) (hok:Kx.az p.k=true):LK w (sets W g3 0 [u0,u1,u2,u3]) rb q g2 g3 p.k u0 u1 u2 u3:=by
 obtain ⟨base,hi,h2,h3,h4,hk⟩:=h.f;exact h.l.lQ ⟨h.sl.1,h.sl.2.1,h.sl.2.2.1,h.sl.2.2.2.1⟩ h2 (hk.UG h4).MQ hok
end
theorem Kv {k:Kx.Kernel} (h:Kx.az k=true) (c:Kx.Call) {e:Nat} (he:c.env=(e:Int)) (h3:e<3):Kx.az (Kx.cO k c).1=true:=by
 exact Kx.nN.2 ((Kx.nN.1 h).cO c (by rw [he];exact Kx.ay.2 (by omega)))
theorem Kw {p:Kx.aH} (h:Kx.bI p=true) {a:Nat} (ha:a<64) {x:Int} (hx:Kx.bK x 0 9999=true):Kx.bI (Kx.iM p a x).1=true:=by
 exact Kx.iD.2 ((Kx.iD.1 h).store (Kx.ay.2 (by omega)) hx)
theorem FN {l:Int} (h:Kx.bK l 1 6=true):Kx.bI (Kx.lS l).1=true:=by
 exact Kx.FN l h
def Qj (rb p n:Nat) (w:World) (en:Ending) (w':World):Prop:=∃ (k:Kx.Kernel) (um ui ue uc:Value) (base:Nat),en=.returned (.agg #[um,ui,ue,uc])∧(Sl um∧Sl ui∧Sl ue∧Sl uc)∧Kx.az k=true∧w.heap.size≤base∧Fa w' base um ui ue uc k∧nP rb p n w w'
theorem Dx (rb p:Nat) (w:World) (h:RD w rb p) (hp:p≤600000) :
  Calls Tryz.prog 118 #[.pointer (some ⟨rb,0,none⟩)] w (Qj rb p 1000 w):=by
 have hrb:=h.lt;obtain ⟨w1,hw1⟩:∃ w1,w.alloc (.cells #[.slice none 0 0,.slice none 0 0,.slice none 0 0,.slice none 0 0] 36)=w1:=⟨_,rfl⟩;obtain ⟨w2,hw2⟩:∃ w2,w1.alloc (.cells #[.string ⟨#[97]⟩] 9)=w2:=⟨_,rfl⟩;obtain ⟨w3,hw3⟩:∃ w3,w2.alloc (.cells #[.string ⟨#[98]⟩,.string ⟨#[97]⟩,.string ⟨#[97,98]⟩,.string ⟨#[]⟩] 9)=w3:=⟨_,rfl⟩;have B1:Below w.heap.size w w1:=hw1 ▸ dm;have B2:Below w1.heap.size w1 w2:=hw2 ▸ dm;have B3:Below w2.heap.size w2 w3:=hw3 ▸ dm;have s1:w.heap.size<w1.heap.size:=by rw [←hw1];simp
 have s2:w1.heap.size<w2.heap.size:=by rw [←hw2];simp
 have s3:w2.heap.size<w3.heap.size:=by rw [←hw3];simp
 have Bw:Below w.heap.size w w3:=B1.trans ((B2.trans (B3.mono B2.size)).mono B1.size);have Hr:=af (h.keep Bw);have Hg:=af (grown_below (rb:=rb) Bw ⟨Bw.os,Bw.tape,Bw.output⟩);have hX2:=af (show BX w3 w.heap.size 36 [.slice none 0 0,.slice none 0 0,.slice none 0 0,.slice none 0 0] from ((hw1 ▸ BX.new w _ _:BX w1 _ _ _).below B2).below B3);have hA:=af (show dK w3 (.slice (some ⟨w1.heap.size,0,none⟩) 1 1) [⟨#[97]⟩] from RS.below (hw2 ▸ RS.one (f:=df) ⟨#[97]⟩ #[.string ⟨#[97]⟩] rfl w1 _:RS df 1 w2 _ _) B3);have hL:=(hw3 ▸ OS.lit (l:=yO) (f:=df) (sz:=1) (e:=9) (w:=w2) (base:=0) (Nat.zero_le _) #[.string ⟨#[98]⟩,.string ⟨#[97]⟩,.string ⟨#[97,98]⟩,.string ⟨#[]⟩] rfl rfl (by decide):OS df 1 9 w3 0 (.slice (some ⟨w2.heap.size,0,none⟩) 4 4) yO).rs
 have HC:=af (JY rb p yO (.slice (some ⟨w2.heap.size,0,none⟩) 4 4) w3 Hr.out (by omega) hL (by decide) (by decide) (fun a n c e=>by simp only [Value.slice.injEq,Option.some.injEq] at e;obtain ⟨rfl,_⟩:=e;show w2.heap.size≠rb;omega));clear B1 B2 B3 Bw hL h;go_enter Tryz.func118,Tryz.ntmps118;go_wp2_with fail;refine HC.out.mono ?_;rintro en w4 ⟨s,hs,rfl,hr,hg⟩;replace Hr:=af hr;replace Hg:=af (grownBy_trans Hg.out hg);have YJ:=hg.size;replace hX2:=af (show BX w4 w.heap.size 36 [.slice none 0 0,.slice none 0 0,.slice none 0 0,.slice none 0 0] from (hg.block w.heap.size hX2.out.lt (by simp;omega)).trans hX2.out);have YK:dK w4 (.slice (some ⟨w1.heap.size,0,none⟩) 1 1) [⟨#[97]⟩]:=by
  refine ⟨by simp,.inr ⟨w1.heap.size,0,1,rfl,Nat.le_refl _,by unfold maxLen;omega,by omega,fun k hk j u hu=>?_⟩⟩
  obtain ⟨b,off,cap,ev,hb,hc⟩:=hA.out.at (k:=k) hk;simp only [Value.slice.injEq,Option.some.injEq,Addr.mk.injEq] at ev;obtain ⟨⟨rfl,rfl,_⟩,_,rfl⟩:=ev;have hk0:k=0:=by simp at hk;exact hk
  subst hk0
  cases j with
  | zero =>
   simp only [df,List.getElem_cons_zero,List.getElem?_cons_zero,Option.some.injEq] at hu;subst hu;have:=(World.cell?_of_block (hg.block w1.heap.size hb (by simp;omega)) (a:=⟨w1.heap.size,0+0,none⟩)).trans hc;simpa using this
  | succ j=>simp [df] at hu
 obtain ⟨w5,hw5⟩:∃ V,w4.alloc (.cells #[.string s] 9)=V:=⟨_,rfl⟩;obtain ⟨w6,hw6⟩:∃ V,w5.alloc (.cells #[.string ⟨#[99]⟩] 9)=V:=⟨_,rfl⟩;obtain ⟨w7,hw7⟩:∃ V,w6.alloc (.cells #[.slice (some ⟨w1.heap.size,0,none⟩) 1 1,.slice (some ⟨w4.heap.size,0,none⟩) 1 1,.slice (some ⟨w5.heap.size,0,none⟩) 1 1] 62)=V:=⟨_,rfl⟩;have hM:=TN YK hw5 hw6 hw7;have B5:Below w4.heap.size w4 w5:=hw5 ▸ dm;have B6:Below w5.heap.size w5 w6:=hw6 ▸ dm;have B7:Below w6.heap.size w6 w7:=hw7 ▸ dm;have Bv:Below w4.heap.size w4 w7:=B5.trans ((B6.trans (B7.mono B6.size)).mono B5.size);have YL:=af (wU [[⟨#[97]⟩],[s],[⟨#[99]⟩]] _ w7 hM rfl (zT s hs));have bF:=af (show Kx.az (Kx.jd [[⟨#[97]⟩],[s],[⟨#[99]⟩]])=true from II s hs);replace Hr:=af (Hr.out.keep Bv);replace Hg:=af (grownBy_trans Hg.out (grown_below (rb:=rb) Bv ⟨Bv.os,Bv.tape,Bv.output⟩))
 replace hX2:=af (hX2.out.below Bv);have hz7:=Bv.size;clear hr hg hM B5 B6 B7 Bv hA YK hs HC;go_wp2_with fail;refine YL.out.mono ?_;rintro en w8 ⟨k0,k1,k2,k3,rfl,hko,hb⟩;obtain ⟨⟨a0,n0,m0,rfl⟩,⟨a1,n1,m1,rfl⟩,⟨a2,n2,m2,rfl⟩,⟨a3,n3,m3,rfl⟩⟩:=hko.sl;have Yg:=hb.size;obtain ⟨w9,JX⟩:∃ V,w8.alloc (.cells #[.slice a0 n0 m0,.slice a1 n1 m1,.slice a2 n2 m2,.slice a3 n3 m3] 36)=V:=⟨_,rfl⟩;have B9:Below w8.heap.size w8 w9:=JX ▸ dm;have H:=af (show LK w w9 rb (p+1) w.heap.size w8.heap.size (Kx.jd [[⟨#[97]⟩],[s],[⟨#[99]⟩]]) (.slice a0 n0 m0) (.slice a1 n1 m1) (.slice a2 n2 m2) (.slice a3 n3 m3) from
  ⟨⟨(Hr.out.keep hb).keep B9,grownBy_trans (grownBy_trans Hg.out (grown_below (rb:=rb) hb ⟨hb.os,hb.tape,hb.output⟩)) (grown_below (rb:=rb) B9 ⟨B9.os,B9.tape,B9.output⟩),(hX2.out.below hb).below B9,JX ▸ BX.new w8 _ _,⟨⟨_,_,_,rfl⟩,⟨_,_,_,rfl⟩,⟨_,_,_,rfl⟩,⟨_,_,_,rfl⟩⟩,by omega⟩,
   ⟨w7.heap.size,w8.heap.size,by omega,.inr aW,B9.size,hko.MQ.r.to B9.size (fun j _ b=>B9.block j b)⟩,bF.out⟩)
 have IM:w.heap.size<w8.heap.size:=by omega
 clear hko hb YL B9 Hr Hg hX2 bF;go_wp2_with fail
 try rw [JX]
 refine (aN rb _ 5 _ H.out.l.r (by omega) (by omega) (by omega)).mono ?_;rintro en w10 ⟨x,rfl,x0,x1,hr,hg⟩;replace H:=af (H.out.pick hr hg);generalize Kx.jd [[⟨#[97]⟩],[s],[⟨#[99]⟩]]=k0 at H;clear hr hg hw1 hw2 hw3 hw5 hw6 hw7 JX;go_upto_if 24 with fail;go_cut [5,6,7,8] from 11 (fun _ _ _ _ wx=>∃ (q:Nat) (k:Kx.Kernel) (v0 v1 v2 v3:Value),q≤p+12∧Hid (LK w wx rb q w.heap.size w8.heap.size k v0 v1 v2 v3))
 case first =>
  by_cases hx:x=0
  ·subst hx;go_wp2_with fail;go_meet;exact ⟨_,_,_,_,_,_,by omega,H⟩
  have hx1:0<x:=by omega
  clear hx;go_wp2_with fail;refine (aN rb _ 3 _ H.out.l.r (by omega) (by omega) (by omega)).mono ?_;rintro en UR ⟨y,rfl,y0,y1,hr,hg⟩;replace H:=af (H.out.pick hr hg);clear hr hg;obtain ⟨P,hP⟩:∃ P,(Kx.lS (1+y)).1=P:=⟨_,rfl⟩;have hin:Kx.bK (1+y) 1 6=true:=Kx.ay.2 ⟨by omega,by omega⟩;have YM:=af (show Kx.bI P=true from hP ▸ FN hin);have HC:=af (show Calls Tryz.prog 180 #[.int .i64 (1+y)] UR (Gs UR P [.bool true]) from hP ▸ FO (1+y) UR hin);clear hP hin;go_wp2_with fail;refine HC.out.mono ?_;rintro en w12 ⟨u0,u1,u2,u3,u4,u5,u6,rfl,Nw,hb⟩;unfold bU;obtain ⟨⟨b0,xN,wL,rfl⟩,⟨b1,zH,xC,rfl⟩,⟨b2,wM,qB,rfl⟩,⟨b3,zI,zJ,rfl⟩,⟨b4,UT,UW,rfl⟩,⟨b5,UX,UY,rfl⟩,⟨b6,UZ,U8,rfl⟩⟩:=Nw.rp.sl;have PM:=hb.size;have PN:=H.out.l.x3.lt
  obtain ⟨YN,Ny⟩:∃ V,w12.alloc (.cells #[.slice b0 xN wL,.slice b1 zH xC,.slice b2 wM qB,.slice b3 zI zJ,.slice b4 UT UW,.slice b5 UX UY,.slice b6 UZ U8,.int .i64 P.hand,.int .i64 P.limit] 168)=V:=⟨_,rfl⟩;have TP:Below w12.heap.size w12 YN:=Ny ▸ dm;have HP:=af (show LP w YN rb _ w.heap.size w8.heap.size w12.heap.size _ _ _ _ P (.slice b0 xN wL) (.slice b1 zH xC) (.slice b2 wM qB) (.slice b3 zI zJ) (.slice b4 UT UW) (.slice b5 UX UY) (.slice b6 UZ U8) from
   ⟨(H.out.l.below hb).below TP,Ny ▸ BX.new w12 _ _,⟨UR.heap.size,w12.heap.size,by omega,.inr aW,TP.size,Nw.r.to TP.size (fun j _ b=>TP.block j b)⟩,YM.out,Nw.rp.sl,by omega⟩)
  clear Nw hb HC TP YM H;go_wp2_with fail
  try rw [Ny]
  refine (aN rb _ 4 _ HP.out.l.r (by omega) (by omega) (by omega)).mono ?_;rintro en w14 ⟨n,rfl,hn0,hn1,hr,hg⟩;replace HP:=af (HP.out.pick hr hg);obtain ⟨n,rfl⟩:=Int.eq_ofNat_of_zero_le hn0;clear hr hg Ny hx1 y0 y1;obtain ⟨g5,hg5⟩:∃ g,w12.heap.size=g:=⟨_,rfl⟩;rw [hg5] at HP ⊢;clear hg5 PM PN;go_wp2_with fail;go_loopw [8] (fun i wr=>∃ (j q:Nat) (P:Kx.aH) (u0 u1 u2 u3 u4 u5 u6:Value),i=.int .i64 j∧j≤n∧q≤p+4+2*j∧Hid (LP w wr rb q w.heap.size w8.heap.size g5 (.slice a0 n0 m0) (.slice a1 n1 m1) (.slice a2 n2 m2) (.slice a3 n3 m3) P u0 u1 u2 u3 u4 u5 u6)) (fun i _=>n - (intOf i).toNat)
  case atStart=>exact ⟨0,_,_,_,_,_,_,_,_,_,rfl,Nat.zero_le _,by omega,HP⟩
  case round =>
   clear HP;obtain ⟨j,q,P,u0,u1,u2,u3,u4,u5,u6,rfl,hj,hq,HP⟩:=hrel;obtain ⟨⟨b0,xN,wL,rfl⟩,⟨b1,zH,xC,rfl⟩,⟨b2,wM,qB,rfl⟩,⟨b3,zI,zJ,rfl⟩,⟨b4,UT,UW,rfl⟩,⟨b5,UX,UY,rfl⟩,⟨b6,UZ,U8,rfl⟩⟩:=HP.out.sl
   by_cases hlt:j<n
   ·have kQ:(j:Int)<(n:Int):=by omega
    obtain ⟨d,hd⟩:∃ d,wr.drew=d:=⟨_,rfl⟩;have Bd:Below wr.heap.size wr d:=hd ▸ Below.bz fZ;have Hd:=af hd;replace HP:=af (HP.out.below Bd);clear hd Bd;go_wp2_with fail;refine uu (S:=(fun U:World=>U.cell? ⟨g5,0,none⟩=some (.slice b0 xN wL)∧U.cell? ⟨g5,1,none⟩=some (.slice b1 zH xC)∧U.cell? ⟨g5,2,none⟩=some (.slice b2 wM qB)∧U.cell? ⟨g5,3,none⟩=some (.slice b3 zI zJ)∧U.cell? ⟨g5,4,none⟩=some (.slice b4 UT UW)∧U.cell? ⟨g5,5,none⟩=some (.slice b5 UX UY)∧U.cell? ⟨g5,6,none⟩=some (.slice b6 UZ U8)∧U.cell? ⟨g5,7,none⟩=some (.int .i64 P.hand)∧U.cell? ⟨g5,8,none⟩=some (.int .i64 P.limit))) (xs:=[10]) (by kernel_rfl) (by rw [Hd.out];exact HP.out.x5.c9) (fun hHeld=>?_)
    rw [Hd.out];rw [Hd.out] at hHeld;refine tL 0 ?_;refine tP 1 ?_;refine tP 3 ?_;refine lI 2 (by kernel_rfl) rfl (fun K hK=>?_);rw [if_pos (by rfl)];go_simp;go_at_call 67;refine (aN rb _ 64 _ HP.out.l.r (by omega) (by omega) (by omega)).mono ?_;rintro en V1 ⟨xa,rfl,xa0,UE,hr,hg⟩;have H1:=af (HP.out.pick hr hg);obtain ⟨ad,rfl⟩:=Int.eq_ofNat_of_zero_le xa0;clear hr hg;refine hK.out _ _ ?_ (fun hHeld=>?_)
    ·exact H1.out.x5.c9
    clear hK K;refine nL ?_;refine lI 4 (by kernel_rfl) rfl (fun K hK=>?_);rw [if_pos (by rfl)];go_simp;go_at_call 67;refine (aN rb _ 99 _ H1.out.l.r (by omega) (by omega) (by omega)).mono ?_;rintro en V2 ⟨xb,rfl,ZU,ZV,hr,hg⟩;have H2:=af (H1.out.pick hr hg);clear hr hg;refine hK.out _ _ ?_ (fun hHeld=>?_)
    ·exact H2.out.x5.c9
    clear hK K;refine nL ?_;have hwr:IntKind.i64.wrap (1+xb)=1+xb:=IntWalk.i64_in _ (by omega);refine tP 5 ?_;clear hwr;refine lI 6 (by kernel_rfl) rfl (fun K hK=>?_);rw [if_pos (by rfl)];go_simp;obtain ⟨P2,hP2⟩:∃ P2,(Kx.iM P ad (1+xb)).1=P2:=⟨_,rfl⟩;have hwd:Kx.bK (1+xb) 0 9999=true:=Kx.ay.2 ⟨by omega,by omega⟩;have WI:=af (show Kx.bI P2=true from hP2 ▸ Kw H2.out.ok (by omega) hwd);have HC:=af (hP2 ▸ BO P ad (1+xb) _ _ _ _ _ _ _ V2 H2.out.rp H2.out.ok (by omega) hwd);unfold bU at HC;clear hP2 hwd;go_at_call 181;refine HC.out.mono ?_;rintro en V3 ⟨z0,z1,z2,z3,z4,z5,z6,rfl,Nw,hb⟩;have H3:=af (H2.out.below hb);have hg5:=H2.out.x5.lt;unfold bU;obtain ⟨⟨e0,en0,eQ,rfl⟩,⟨e1,eU,eX,rfl⟩,⟨e2,eY,fA,rfl⟩,⟨e3,fB,fC,rfl⟩,⟨e4,WJ,WL,rfl⟩,⟨e5,WM,WN,rfl⟩,⟨e6,WO,WQ,rfl⟩⟩:=Nw.rp.sl;clear hb HC;refine hK.out _ _ ?_ (fun hHeld=>?_)
    ·exact H3.out.x5.c9
    clear hK K;refine nL ?_;refine tP 7 ?_;refine tP 8 ?_;refine tP 9 ?_;obtain ⟨c0,c1,c2,c3,c4,c5,c6,c7,c8⟩:=H3.out.x5.c9;obtain ⟨y0,y1,y2,y3,y4,y5,y6,y7,y8⟩:=H3.out.x5.f9;refine lN 10 (by rfl) (by kernel_rfl) rfl (fun K hK=>?_);rw [if_pos (by rfl)];go_simp;refine hK.out _ _ ?_;clear hK K;refine nL ?_;refine gY (by kernel_rfl) ?_ _;obtain ⟨V4,FP⟩:∃ V,sets V3 g5 0 [.slice e0 en0 eQ,.slice e1 eU eX,.slice e2 eY fA,.slice e3 fB fC,.slice e4 WJ WL,.slice e5 WM WN,.slice e6 WO WQ,.int .i64 P2.hand,.int .i64 P2.limit]=V:=⟨_,rfl⟩
    rw [show ((((((((((V3.setCell ⟨g5,0,none⟩ (.slice e0 en0 eQ)).setCell ⟨g5,1,none⟩ (.slice e1 eU eX)).setCell ⟨g5,2,none⟩ (.slice e2 eY fA)).setCell ⟨g5,3,none⟩ (.slice e3 fB fC)).setCell ⟨g5,4,none⟩ (.slice e4 WJ WL)).setCell ⟨g5,5,none⟩ (.slice e5 WM WN)).setCell ⟨g5,6,none⟩ (.slice e6 WO WQ)).setCell ⟨g5,7,none⟩ (.int .i64 P2.hand)).setCell ⟨g5,8,none⟩ (.int .i64 P2.limit)))=V4 from FP];have HP4:=af (show LP w V4 rb _ w.heap.size w8.heap.size g5 _ _ _ _ P2 (.slice e0 en0 eQ) (.slice e1 eU eX) (.slice e2 eY fA) (.slice e3 fB fC) (.slice e4 WJ WL) (.slice e5 WM WN) (.slice e6 WO WQ) from FP ▸ H3.out.set Nw.rp.sl hg5 Nw WI.out);clear FP Nw c0 c1 c2 c3 c4 c5 c6 c7 c8 y0 y1 y2 y3 y4 y5 y6 y7 y8 HP H1 H2 H3 Hd hg5;go_wp2_with fail;go_roundw
    case rel=>exact ⟨j+1,_,_,_,_,_,_,_,_,_,by go_num,by omega,by omega,HP4⟩
    case measure=>simp [intOf];omega
   obtain rfl:j=n:=by omega
   obtain ⟨c0,c1,c2,c3,c4,c5,c6,c7,c8⟩:=HP.out.x5.c9;obtain ⟨r0,r1,r2,r3⟩:=HP.out.l.x3.c4;obtain ⟨jh,ji,jk,jl⟩:=HP.out.l.x3.f4;have hok:=(fM HP.out.ok).1;go_wp2_with fail;go_meet;exact ⟨_,_,_,_,_,_,by omega,af (HP.out.WH hok)⟩
 case rest =>
  clear H;obtain ⟨q,k,v0,v1,v2,v3,hq,H⟩:=hcut;go_wp2_with fail;refine (aN rb _ 24 _ H.out.l.r (by omega) (by omega) (by omega)).mono ?_;rintro en w15 ⟨n,rfl,hn0,hn1,hr,hg⟩;replace H:=af (H.out.pick hr hg);obtain ⟨n,rfl⟩:=Int.eq_ofNat_of_zero_le hn0;clear hr hg;go_wp2_with fail;go_loopw [10] (fun i wr=>∃ (j q:Nat) (k:Kx.Kernel) (v0 v1 v2 v3:Value),i=.int .i64 j∧j≤n∧q≤p+14+30*j∧Hid (LK w wr rb q w.heap.size w8.heap.size k v0 v1 v2 v3)) (fun i _=>n - (intOf i).toNat)
  case atStart=>exact ⟨0,_,_,_,_,_,_,rfl,Nat.zero_le _,by omega,H⟩
  case round =>
   clear H;obtain ⟨j,q,k,v0,v1,v2,v3,rfl,hj,hq,H⟩:=hrel;obtain ⟨⟨a0,n0,m0,rfl⟩,⟨a1,n1,m1,rfl⟩,⟨a2,n2,m2,rfl⟩,⟨a3,n3,m3,rfl⟩⟩:=H.out.l.sl
   by_cases hlt:j<n
   ·have kQ:(j:Int)<(n:Int):=by omega
    obtain ⟨d,hd⟩:∃ d,wr.drew=d:=⟨_,rfl⟩;have Bd:Below wr.heap.size wr d:=hd ▸ Below.bz fZ;have Hd:=af hd;replace H:=af (H.out.below Bd);obtain ⟨_,_,h12,_⟩:=aI H.out.ok;have fJ:=af h12;clear hd Bd h12;go_wp2_with fail;refine uu (S:=(fun U:World=>U.cell? ⟨w8.heap.size,0,none⟩=some (.slice a0 n0 m0)∧U.cell? ⟨w8.heap.size,1,none⟩=some (.slice a1 n1 m1)∧U.cell? ⟨w8.heap.size,2,none⟩=some (.slice a2 n2 m2)∧U.cell? ⟨w8.heap.size,3,none⟩=some (.slice a3 n3 m3))) (xs:=[9]) (by kernel_rfl) (by rw [Hd.out];exact H.out.l.x3.c4) (fun hHeld=>?_)
    rw [Hd.out];rw [Hd.out] at hHeld;refine tL 0 ?_;refine tP 1 ?_;refine tL 2 ?_;refine lI 3 (by kernel_rfl) rfl (fun K hK=>?_);rw [if_pos (by rfl)];go_simp;go_at_call 84;refine (Ij rb _ k.ag _ _ _ _ _ H.out.l.r (by omega) H.out.ag fJ.out).mono ?_;rintro en V1 ⟨c,e,rfl,hce,he,hnm,q1,hq1,hr,hg⟩;have H1:=af (H.out.pick hr hg);obtain ⟨r,hrr⟩:∃ r,Kx.cO k c=r:=⟨_,rfl⟩;have Ky:=af (show Kx.az r.1=true from hrr ▸ Kv H1.out.ok c hce he);have HC:=af (hrr ▸ Ap k c e _ _ _ _ V1 H1.out.rk H1.out.ok (jX H1.out.ok) hce he (by omega));have RG:=af H1.out.l.x3.lt;clear hr hg hrr hce he hnm;refine hK.out _ _ ?_ (fun hHeld=>?_)
    ·exact H1.out.l.x3.c4
    clear hK K;refine nL ?_;refine lI 4 (by kernel_rfl) rfl (fun K hK=>?_);rw [if_pos (by rfl)];go_simp;go_at_call 42;refine HC.out.mono ?_;rintro en V2 ⟨z0,z1,z2,z3,rfl,ho,hb⟩;have H2:=af (H1.out.below hb);obtain ⟨⟨d0,WR,WS,rfl⟩,⟨d1,WT,WU,rfl⟩,⟨d2,WV,WW,rfl⟩,⟨d3,WX,WY,rfl⟩⟩:=ho.sl;clear hb HC;refine hK.out _ _ ?_ (fun hHeld=>?_)
    ·exact H2.out.l.x3.c4
    clear hK K;refine nL ?_;refine tP 5 ?_;refine tP 6 ?_;refine tP 7 ?_;refine tP 8 ?_;obtain ⟨r0,r1,r2,r3⟩:=H2.out.l.x3.c4;obtain ⟨jh,ji,jk,jl⟩:=H2.out.l.x3.f4;refine lN 9 (by rfl) (by kernel_rfl) rfl (fun K hK=>?_);rw [if_pos (by rfl)];go_simp;refine hK.out _ _ ?_;clear hK K;refine nL ?_;refine gY (by kernel_rfl) ?_ _;obtain ⟨V3,Fv⟩:∃ V,sets V2 w8.heap.size 0 [.slice d0 WR WS,.slice d1 WT WU,.slice d2 WV WW,.slice d3 WX WY]=V:=⟨_,rfl⟩;rw [show (((((V2.setCell ⟨w8.heap.size,0,none⟩ (.slice d0 WR WS)).setCell ⟨w8.heap.size,1,none⟩ (.slice d1 WT WU)).setCell ⟨w8.heap.size,2,none⟩ (.slice d2 WV WW)).setCell ⟨w8.heap.size,3,none⟩ (.slice d3 WX WY)))=V3 from Fv]
    have H3:=af (show LK w V3 rb _ w.heap.size w8.heap.size r.1 (.slice d0 WR WS) (.slice d1 WT WU) (.slice d2 WV WW) (.slice d3 WX WY) from Fv ▸ H2.out.l.lQ ⟨⟨_,_,_,rfl⟩,⟨_,_,_,rfl⟩,⟨_,_,_,rfl⟩,⟨_,_,_,rfl⟩⟩ RG.out ho.MQ Ky.out);clear Fv ho r0 r1 r2 r3 jh ji jk jl H H1 H2 Hd RG Ky;go_wp2_with fail;go_roundw
    case rel=>exact ⟨j+1,_,_,_,_,_,_,by go_num,by omega,by omega,H3⟩
    case measure=>simp [intOf];omega
   obtain rfl:j=n:=by omega
   obtain ⟨base,hbase,hko,hrd,hgr,hbx⟩:=H.out.fin;have tZ:=af hko;have Oe:=af hrd;have JD:=af hgr;have jF:=af hbx;have bF:=af H.out.ok;have aC:=af hbase;obtain ⟨c0,c1,c2,c3⟩:=H.out.l.x3.c4;obtain ⟨r0,r1,r2,r3⟩:=H.out.l.x2.c4;obtain ⟨jh,ji,jk,jl⟩:=H.out.l.x2.f4;clear hko hrd hgr hbx hbase;go_wp2_with fail;obtain ⟨F,hF⟩:∃ V,sets wr w.heap.size 0 [.slice a0 n0 m0,.slice a1 n1 m1,.slice a2 n2 m2,.slice a3 n3 m3]=V:=⟨_,rfl⟩;rw [show (((((wr.setCell ⟨w.heap.size,0,none⟩ (.slice a0 n0 m0)).setCell ⟨w.heap.size,1,none⟩ (.slice a1 n1 m1)).setCell ⟨w.heap.size,2,none⟩ (.slice a2 n2 m2)).setCell ⟨w.heap.size,3,none⟩ (.slice a3 n3 m3)))=F from hF];rw [hF] at tZ Oe JD jF;obtain ⟨e0,e1,e2,e3⟩:=jF.out.c4;refine bodyPost_ret (v:=.agg #[.slice a0 n0 m0,.slice a1 n1 m1,.slice a2 n2 m2,.slice a3 n3 m3]) (by simp [results,Tryz.results118,go_sem,e0,e1,e2,e3]) rfl ?_
   exact ⟨k,_,_,_,_,base,rfl,⟨⟨_,_,_,rfl⟩,⟨_,_,_,rfl⟩,⟨_,_,_,rfl⟩,⟨_,_,_,rfl⟩⟩,bF.out,Nat.le_of_lt aC.out,tZ.out,q,by omega,Oe.out,JD.out⟩
end Go.Proofs.YtliebkfligagnaaGreatDoor
