/- KD17, KD18, joined. -/
import Derived.Test.YtenebmeaoidnoaaGreatDoorKD16
import Derived.Test.YtenebmeaoidnoaaGreatDoorKR
import Derived.Test.YtenebmeaoidnoaaGreatDoorKY
import Derived.Deep.CutBlock
import Derived.IntWalk
namespace Go.Proofs.YtenebmeaoidnoaaGreatDoor
open Go.RowKit
theorem rms3x {W W1 W2 W3:World} {a b c:Kx.Str} {g:Nat} (h0:RStr W (.slice (some ⟨g,0,none⟩) 1 1) [a]) (e1:W.alloc (.cells #[.string b] 9)=W1) (e2:W1.alloc (.cells #[.string c] 9)=W2)
    (e3:W2.alloc (.cells #[.slice (some ⟨g,0,none⟩) 1 1,.slice (some ⟨W.heap.size,0,none⟩) 1 1,.slice (some ⟨W1.heap.size,0,none⟩) 1 1] 38)=W3) :
    RMS W3 (.slice (some ⟨W2.heap.size,0,none⟩) 3 3) [[a],[b],[c]]:=by
  have q2:RS strC 1 W1 (.slice (some ⟨W.heap.size,0,none⟩) 1 1) [b]:=e1 ▸ RS.one (f:=strC) b #[.string b] rfl W _;have q3:RS strC 1 W2 (.slice (some ⟨W1.heap.size,0,none⟩) 1 1) [c]:=e2 ▸ RS.one (f:=strC) c #[.string c] rfl W1 _;have b1:Below W.heap.size W W1:=e1 ▸ bL_;have b2:Below W1.heap.size W1 W2:=e2 ▸ bL_;have b3:Below W2.heap.size W2 W3:=e3 ▸ bL_;have hc:BX W3 W2.heap.size 38 [.slice (some ⟨g,0,none⟩) 1 1,.slice (some ⟨W.heap.size,0,none⟩) 1 1,.slice (some ⟨W1.heap.size,0,none⟩) 1 1]:=e3 ▸ BX.new W2 _ _;refine ⟨[.slice (some ⟨g,0,none⟩) 1 1,.slice (some ⟨W.heap.size,0,none⟩) 1 1,.slice (some ⟨W1.heap.size,0,none⟩) 1 1],rfl,⟨by simp,.inr ⟨W2.heap.size,0,3,rfl,Nat.le_refl _,by unfold maxLen;omega,hc.lt,fun k hk j u hu=>?_⟩⟩,fun i h h'=>?_⟩
  · have hj:j=0:=by
      cases j with
      | zero=>rfl
      | succ j=>simp [valC] at hu
    subst hj;simp only [List.length_cons,List.length_nil] at hk;have:=hc.cell k;rw [show (0:Nat)+k*1+0=k by omega];rw [this];simpa [valC,hk] using hu
  · simp only [List.length_cons,List.length_nil] at h;have hi:i=0∨i=1∨i=2:=by omega
    rcases hi with rfl | rfl | rfl
    · exact RS.below (RS.below (RS.below h0 b1) b2) b3
    · exact RS.below (RS.below q2 b2) b3
    · exact RS.below q3 b3
def lits4k:List Kx.Str:=[⟨#[98]⟩,⟨#[97]⟩,⟨#[97,98]⟩,⟨#[]⟩]
theorem lits4k_ok:∀ s ∈ lits4k,Kx.kernelOk (Kx.kernelNew [[Kx.sA],[s],[Kx.sC]])=true:=by decide +kernel
theorem lits4k_rights:∀ s ∈ lits4k,∀ r ∈ [[Kx.sA],[s],[Kx.sC]],Kx.rightsOk r=true:=by decide
/-- a kernel that can be read as long as the blocks from base on stay -/
def RKo (w:World) (base:Nat) (um ui ue uc:Value) (k:Kx.Kernel):Prop:=∀ V,Up base w V→RK V um ui ue uc k
section
variable {w W V:World} {base rb q q' g2 g3 g5:Nat} {um ui ue uc us ul uq v0 v1 v2 v3 u0 u1 u2 u3 u4 u5 u6:Value} {k k':Kx.Kernel} {p p':Kx.Pager}
theorem RKo.rk (h:RKo w base um ui ue uc k):RK w um ui ue uc k:=h w (Up.refl _ _)
theorem RKo.up (h:RKo w base um ui ue uc k) (hu:Up base w V):RKo V base um ui ue uc k:=fun U h'=>h U (hu.trans h')
theorem KO.rko (h:KO w base um ui ue uc k):RKo w base um ui ue uc k:=fun _ hu=>(h.up hu).rk
theorem RPo.rko (h:RPo w base um ui ue uc us ul uq p):RKo w base um ui ue uc p.k:=fun V hu=>(h V hu).k
theorem Up.mono {b b':Nat} (h:Up b w V) (hb:b≤b'):Up b' w V:=⟨h.1,fun k h1 h2=>h.2 k (Nat.le_trans hb h1) h2⟩
/-- the boxes of l92Kernel -/
structure L0 (w W:World) (rb q g2 g3:Nat) (v0 v1 v2 v3:Value):Prop where
  r:RD W rb q
  g:w.grownBy W (some rb)
  x2:BX W g2 28 [.slice none 0 0,.slice none 0 0,.slice none 0 0,.slice none 0 0]
  x3:BX W g3 28 [v0,v1,v2,v3]
  sl:Sl v0∧Sl v1∧Sl v2∧Sl v3
  h:rb<w.heap.size∧w.heap.size≤g2∧g2<g3
theorem L0.pick (h:L0 w W rb q g2 g3 v0 v1 v2 v3) (hr:RD V rb q') (hg:W.grownBy V (some rb)):L0 w V rb q' g2 g3 v0 v1 v2 v3:=
  ⟨hr,grownBy_trans h.g hg,(hg.block g2 h.x2.lt (by have:=h.h;simp;omega)).trans h.x2,(hg.block g3 h.x3.lt (by have:=h.h;simp;omega)).trans h.x3,h.sl,h.h⟩
theorem L0.below (h:L0 w W rb q g2 g3 v0 v1 v2 v3) (hb:Below W.heap.size W V):L0 w V rb q g2 g3 v0 v1 v2 v3:=
  h.pick (h.r.keep hb) (grown_below hb ⟨hb.os,hb.tape,hb.output⟩)
theorem L0.set3 (h:L0 w W rb q g2 g3 v0 v1 v2 v3) (hs:Sl u0∧Sl u1∧Sl u2∧Sl u3):L0 w (sets W g3 0 [u0,u1,u2,u3]) rb q g2 g3 u0 u1 u2 u3:=by
  obtain ⟨h1,h2⟩:=went_sets (w:=w) (g:=g3) (by have:=h.h;omega) (by have:=h.h;omega) [u0,u1,u2,u3] 0 h.r h.g;exact ⟨h1,h2,BX.setsO (by have:=h.h;omega) _ 0 h.x2,h.x3.sets _ rfl,hs,h.h⟩
theorem L0.setO (h:L0 w W rb q g2 g3 v0 v1 v2 v3) (h5:g3<g5) (l:List Value):L0 w (sets W g5 0 l) rb q g2 g3 v0 v1 v2 v3:=by
  obtain ⟨h1,h2⟩:=went_sets (w:=w) (g:=g5) (by have:=h.h;omega) (by have:=h.h;omega) l 0 h.r h.g;exact ⟨h1,h2,BX.setsO (by have:=h.h;omega) _ 0 h.x2,BX.setsO (by omega) _ 0 h.x3,h.sl,h.h⟩
/-- a kernel that can be read as long as the blocks from base to hi stay -/
def RKr (w:World) (base hi:Nat) (um ui ue uc:Value) (k:Kx.Kernel):Prop:=∀ V:World,w.heap.size≤V.heap.size→(∀ j,base≤j→j<hi→V.heap[j]?=w.heap[j]?)→RK V um ui ue uc k
theorem RKo.r (h:RKo w base um ui ue uc k):RKr w base w.heap.size um ui ue uc k:=fun V hs hk=>h V ⟨hs,hk⟩
theorem RKr.to {hi:Nat} (h:RKr w base hi um ui ue uc k) (hs:w.heap.size≤V.heap.size) (hk:∀ j,base≤j→j<hi→V.heap[j]?=w.heap[j]?):RKr V base hi um ui ue uc k:=
  fun U h1 h2=>h U (Nat.le_trans hs h1) (fun j a b=>(h2 j a b).trans (hk j a b))
theorem RKr.rko {hi:Nat} (h:RKr w base hi um ui ue uc k) (hh:hi≤w.heap.size):RKo w base um ui ue uc k:=fun V hu=>h V hu.1 (fun j a b=>hu.2 j a (by omega))
theorem sets_size (g:Nat) (l:List Value):∀ (i:Nat) (w:World),(sets w g i l).heap.size=w.heap.size:=by
  induction l with
  | nil=>intro i w;rfl
  | cons v l ih=>intro i w;exact (ih (i+1) _).trans (by simp [World.setCell])
theorem sets_block (g:Nat) (l:List Value) {j:Nat} (hj:j≠g):∀ (i:Nat) (w:World),(sets w g i l).heap[j]?=w.heap[j]?:=by
  induction l with
  | nil=>intro i w;rfl
  | cons v l ih=>intro i w;exact (ih (i+1) _).trans (Below.heap_setCell _ _ _ _ hj)
/-- a kernel under way -/
structure LK (w W:World) (rb q g2 g3:Nat) (k:Kx.Kernel) (v0 v1 v2 v3:Value):Prop where
  l:L0 w W rb q g2 g3 v0 v1 v2 v3
  f:∃ base hi,g2<base∧(g3<base∨hi≤g3)∧hi≤W.heap.size∧RKr W base hi v0 v1 v2 v3 k
  ok:Kx.kernelOk k=true
theorem LK.pick (h:LK w W rb q g2 g3 k v0 v1 v2 v3) (hr:RD V rb q') (hg:W.grownBy V (some rb)):LK w V rb q' g2 g3 k v0 v1 v2 v3:=by
  obtain ⟨base,hi,h2,h3,h4,hk⟩:=h.f;have h1:=h.l.h;exact ⟨h.l.pick hr hg,⟨base,hi,h2,h3,Nat.le_trans h4 hg.size,hk.to hg.size (fun j a b=>hg.block j (by omega) (by simp;omega))⟩,h.ok⟩
theorem LK.below (h:LK w W rb q g2 g3 k v0 v1 v2 v3) (hb:Below W.heap.size W V):LK w V rb q g2 g3 k v0 v1 v2 v3:=
  h.pick (h.l.r.keep hb) (grown_below hb ⟨hb.os,hb.tape,hb.output⟩)
theorem LK.rk (h:LK w W rb q g2 g3 k v0 v1 v2 v3):RK W v0 v1 v2 v3 k:=by
  obtain ⟨base,hi,h2,h3,h4,hk⟩:=h.f;exact hk W nR_ (fun _ _ _=>rfl)
theorem L0.setK (h:L0 w W rb q g2 g3 v0 v1 v2 v3) (hs:Sl u0∧Sl u1∧Sl u2∧Sl u3) (hg:g3<base) (hk:RKo W base u0 u1 u2 u3 k') (hok:Kx.kernelOk k'=true):LK w (sets W g3 0 [u0,u1,u2,u3]) rb q g2 g3 k' u0 u1 u2 u3:=
  ⟨h.set3 hs,⟨base,W.heap.size,by have:=h.h;omega,.inl hg,by rw [sets_size];exact Nat.le_refl _,hk.r.to (by rw [sets_size];exact Nat.le_refl _) (fun j a _=>sets_block _ _ (by omega) _ _)⟩,hok⟩
/-- what l92Call wants of the infos -/
theorem LK.infos (h:LK w W rb q g2 g3 k v0 v1 v2 v3):∀ V,W.grownBy V (some rb)→RInfo V v1 k.infos:=by
  obtain ⟨base,hi,h2,h3,h4,hk⟩:=h.f;have h1:=h.l.h;exact fun V hg=>(hk V hg.size (fun j a b=>hg.block j (by omega) (by simp;omega))).i
/-- the end: the result's box is turned -/
theorem LK.fin (h:LK w W rb q g2 g3 k v0 v1 v2 v3):∃ base,g2<base∧RKo (sets W g2 0 [v0,v1,v2,v3]) base v0 v1 v2 v3 k∧RD (sets W g2 0 [v0,v1,v2,v3]) rb q∧w.grownBy (sets W g2 0 [v0,v1,v2,v3]) (some rb)∧BX (sets W g2 0 [v0,v1,v2,v3]) g2 28 [v0,v1,v2,v3]:=by
  obtain ⟨base,hi,h2,h3,h4,hk⟩:=h.f;have h1:=h.l.h;obtain ⟨a,b⟩:=went_sets (w:=w) (g:=g2) (by omega) (by omega) [v0,v1,v2,v3] 0 h.l.r h.l.g;exact ⟨base,h2,(hk.to (by rw [sets_size];exact Nat.le_refl _) (fun j a _=>sets_block _ _ (by omega) _ _)).rko (by rw [sets_size];exact h4),a,b,h.l.x2.sets _ rfl⟩
/-- a pager that can be read as long as the blocks from base to hi stay -/
def RPr (w:World) (base hi:Nat) (u0 u1 u2 u3 u4 u5 u6:Value) (p:Kx.Pager):Prop:=∀ V:World,w.heap.size≤V.heap.size→(∀ j,base≤j→j<hi→V.heap[j]?=w.heap[j]?)→RP V u0 u1 u2 u3 u4 u5 u6 p
theorem RPo.r (h:RPo w base u0 u1 u2 u3 u4 u5 u6 p):RPr w base w.heap.size u0 u1 u2 u3 u4 u5 u6 p:=fun V hs hk=>h V ⟨hs,hk⟩
theorem RPr.to {hi:Nat} (h:RPr w base hi u0 u1 u2 u3 u4 u5 u6 p) (hs:w.heap.size≤V.heap.size) (hk:∀ j,base≤j→j<hi→V.heap[j]?=w.heap[j]?):RPr V base hi u0 u1 u2 u3 u4 u5 u6 p:=
  fun U h1 h2=>h U (Nat.le_trans hs h1) (fun j a b=>(h2 j a b).trans (hk j a b))
theorem RPr.rpo {hi:Nat} (h:RPr w base hi u0 u1 u2 u3 u4 u5 u6 p) (hh:hi≤w.heap.size):RPo w base u0 u1 u2 u3 u4 u5 u6 p:=fun V hu=>h V hu.1 (fun j a b=>hu.2 j a (by omega))
/-- a pager under way -/
structure LP (w W:World) (rb q g2 g3 g5:Nat) (v0 v1 v2 v3:Value) (p:Kx.Pager) (u0 u1 u2 u3 u4 u5 u6:Value):Prop where
  l:L0 w W rb q g2 g3 v0 v1 v2 v3
  x5:BX W g5 103 [u0,u1,u2,u3,u4,u5,u6,.int .i64 p.hand,.int .i64 p.limit]
  f:∃ base hi,g3<base∧(g5<base∨hi≤g5)∧hi≤W.heap.size∧RPr W base hi u0 u1 u2 u3 u4 u5 u6 p
  ok:Kx.pagerOk p=true
  sl:Sl u0∧Sl u1∧Sl u2∧Sl u3∧Sl u4∧Sl u5∧Sl u6
  h5:g3<g5
theorem LP.pick (h:LP w W rb q g2 g3 g5 v0 v1 v2 v3 p u0 u1 u2 u3 u4 u5 u6) (hr:RD V rb q') (hg:W.grownBy V (some rb)):LP w V rb q' g2 g3 g5 v0 v1 v2 v3 p u0 u1 u2 u3 u4 u5 u6:=by
  obtain ⟨base,hi,h2,h3,h4,hk⟩:=h.f;have h1:=h.l.h;have h6:=h.h5;exact ⟨h.l.pick hr hg,(hg.block g5 h.x5.lt (by simp;omega)).trans h.x5,⟨base,hi,h2,h3,Nat.le_trans h4 hg.size,hk.to hg.size (fun j a b=>hg.block j (by omega) (by simp;omega))⟩,h.ok,h.sl,h.h5⟩
theorem LP.below (h:LP w W rb q g2 g3 g5 v0 v1 v2 v3 p u0 u1 u2 u3 u4 u5 u6) (hb:Below W.heap.size W V):LP w V rb q g2 g3 g5 v0 v1 v2 v3 p u0 u1 u2 u3 u4 u5 u6:=
  h.pick (h.l.r.keep hb) (grown_below hb ⟨hb.os,hb.tape,hb.output⟩)
theorem LP.rp (h:LP w W rb q g2 g3 g5 v0 v1 v2 v3 p u0 u1 u2 u3 u4 u5 u6):RP W u0 u1 u2 u3 u4 u5 u6 p:=by
  obtain ⟨base,hi,h2,h3,h4,hk⟩:=h.f;exact hk W nR_ (fun _ _ _=>rfl)
theorem LP.set (h:LP w W rb q g2 g3 g5 v0 v1 v2 v3 p u0 u1 u2 u3 u4 u5 u6) {z0 z1 z2 z3 z4 z5 z6:Value} (hs:Sl z0∧Sl z1∧Sl z2∧Sl z3∧Sl z4∧Sl z5∧Sl z6) (hg:g5<base) (hk:RPo W base z0 z1 z2 z3 z4 z5 z6 p') (hok:Kx.pagerOk p'=true) :
    LP w (sets W g5 0 [z0,z1,z2,z3,z4,z5,z6,.int .i64 p'.hand,.int .i64 p'.limit]) rb q g2 g3 g5 v0 v1 v2 v3 p' z0 z1 z2 z3 z4 z5 z6:=
  ⟨h.l.setO h.h5 _,h.x5.sets _ rfl,⟨base,W.heap.size,by have:=h.h5;omega,.inl hg,by rw [sets_size];exact Nat.le_refl _,hk.r.to (by rw [sets_size];exact Nat.le_refl _) (fun j a _=>sets_block _ _ (by omega) _ _)⟩,hok,hs,h.h5⟩
/-- the pager's kernel is laid into the kernel's box -/
theorem LP.kern (h:LP w W rb q g2 g3 g5 v0 v1 v2 v3 p u0 u1 u2 u3 u4 u5 u6) (hok:Kx.kernelOk p.k=true):LK w (sets W g3 0 [u0,u1,u2,u3]) rb q g2 g3 p.k u0 u1 u2 u3:=by
  obtain ⟨base,hi,h2,h3,h4,hk⟩:=h.f;exact h.l.setK ⟨h.sl.1,h.sl.2.1,h.sl.2.2.1,h.sl.2.2.2.1⟩ h2 (hk.rpo h4).rko hok
end
theorem callK_ok {k:Kx.Kernel} (h:Kx.kernelOk k=true) (c:Kx.Call) {e:Nat} (he:c.env=(e:Int)) (h3:e<3):Kx.kernelOk (Kx.callK k c).1=true:=by
  exact Kx.ok_iff.2 ((Kx.ok_iff.1 h).callK c (by rw [he];exact Kx.inR_true.2 (by omega)))
theorem store_ok {p:Kx.Pager} (h:Kx.pagerOk p=true) {a:Nat} (ha:a<64) {x:Int} (hx:Kx.inR x 0 9999=true):Kx.pagerOk (Kx.pagerStore p a x).1=true:=by
  exact Kx.pok_iff.2 ((Kx.pok_iff.1 h).store (Kx.inR_true.2 (by omega)) hx)
theorem new_ok {l:Int} (h:Kx.inR l 1 6=true):Kx.pagerOk (Kx.pagerNew l).1=true:=by
  exact Kx.new_ok l h
/-- a kernel is drawn -/
def DrawnK (rb p n:Nat) (w:World) (en:Ending) (w':World):Prop:=∃ (k:Kx.Kernel) (um ui ue uc:Value) (base:Nat),en=.returned (.agg #[um,ui,ue,uc])∧(Sl um∧Sl ui∧Sl ue∧Sl uc)∧Kx.kernelOk k=true∧w.heap.size≤base∧RKo w' base um ui ue uc k∧Went rb p n w w'
set_option maxHeartbeats 8000000 in
set_option maxRecDepth 100000 in
theorem l92Kernel_c (rb p:Nat) (w:World) (h:RD w rb p) (hp:p≤600000) :
    Calls Tryz.prog 63 #[.pointer (some ⟨rb,0,none⟩)] w (DrawnK rb p 1000 w):=by
  have hrb:=h.lt;obtain ⟨w1,hw1⟩:∃ w1,w.alloc (.cells #[.slice none 0 0,.slice none 0 0,.slice none 0 0,.slice none 0 0] 28)=w1:=⟨_,rfl⟩;obtain ⟨w2,hw2⟩:∃ w2,w1.alloc (.cells #[.string ⟨#[97]⟩] 9)=w2:=⟨_,rfl⟩;obtain ⟨w3,hw3⟩:∃ w3,w2.alloc (.cells #[.string ⟨#[98]⟩,.string ⟨#[97]⟩,.string ⟨#[97,98]⟩,.string ⟨#[]⟩] 9)=w3:=⟨_,rfl⟩;have B1:Below w.heap.size w w1:=hw1 ▸ bL_;have B2:Below w1.heap.size w1 w2:=hw2 ▸ bL_;have B3:Below w2.heap.size w2 w3:=hw3 ▸ bL_;have s1:w.heap.size<w1.heap.size:=by rw [←hw1];simp
  have s2:w1.heap.size<w2.heap.size:=by rw [←hw2];simp
  have s3:w2.heap.size<w3.heap.size:=by rw [←hw3];simp
  have Bw:Below w.heap.size w w3:=B1.trans ((B2.trans (B3.mono B2.size)).mono B1.size);have Hr:=hI_ (h.keep Bw);have Hg:=hI_ (grown_below (rb:=rb) Bw ⟨Bw.os,Bw.tape,Bw.output⟩);have hX2:=hI_ (show BX w3 w.heap.size 28 [.slice none 0 0,.slice none 0 0,.slice none 0 0,.slice none 0 0] from ((hw1 ▸ BX.new w _ _:BX w1 _ _ _).below B2).below B3);have hA:=hI_ (show RStr w3 (.slice (some ⟨w1.heap.size,0,none⟩) 1 1) [⟨#[97]⟩] from RS.below (hw2 ▸ RS.one (f:=strC) ⟨#[97]⟩ #[.string ⟨#[97]⟩] rfl w1 _:RS strC 1 w2 _ _) B3);have hL:=(hw3 ▸ OS.lit (l:=lits4k) (f:=strC) (sz:=1) (e:=9) (w:=w2) (base:=0) (Nat.zero_le _) #[.string ⟨#[98]⟩,.string ⟨#[97]⟩,.string ⟨#[97,98]⟩,.string ⟨#[]⟩] rfl rfl (by decide):OS strC 1 9 w3 0 (.slice (some ⟨w2.heap.size,0,none⟩) 4 4) lits4k).rs
  have HC:=hI_ (of_c rb p lits4k (.slice (some ⟨w2.heap.size,0,none⟩) 4 4) w3 Hr.out (by omega) hL (by decide) (by decide) (fun a n c e=>by simp only [Value.slice.injEq,Option.some.injEq] at e;obtain ⟨rfl,_⟩:=e;show w2.heap.size≠rb;omega));clear B1 B2 B3 Bw hL h;go_enter Tryz.func63,Tryz.ntmps63;go_wp2_with fail;refine HC.out.mono ?_;rintro en w4 ⟨s,hs,rfl,hr,hg⟩;replace Hr:=hI_ hr;replace Hg:=hI_ (grownBy_trans Hg.out hg);have hz4:=hg.size;replace hX2:=hI_ (show BX w4 w.heap.size 28 [.slice none 0 0,.slice none 0 0,.slice none 0 0,.slice none 0 0] from (hg.block w.heap.size hX2.out.lt (by simp;omega)).trans hX2.out);have hA4:RStr w4 (.slice (some ⟨w1.heap.size,0,none⟩) 1 1) [⟨#[97]⟩]:=by
    refine ⟨by simp,.inr ⟨w1.heap.size,0,1,rfl,Nat.le_refl _,by unfold maxLen;omega,by omega,fun k hk j u hu=>?_⟩⟩
    obtain ⟨b,off,cap,ev,hb,hc⟩:=hA.out.at (k:=k) hk;simp only [Value.slice.injEq,Option.some.injEq,Addr.mk.injEq] at ev;obtain ⟨⟨rfl,rfl,_⟩,_,rfl⟩:=ev;have hk0:k=0:=by simp at hk;exact hk
    subst hk0
    cases j with
    | zero =>
      simp only [strC,List.getElem_cons_zero,List.getElem?_cons_zero,Option.some.injEq] at hu;subst hu;have:=(World.cell?_of_block (hg.block w1.heap.size hb (by simp;omega)) (a:=⟨w1.heap.size,0+0,none⟩)).trans hc;simpa using this
    | succ j=>simp [strC] at hu
  obtain ⟨w5,hw5⟩:∃ V,w4.alloc (.cells #[.string s] 9)=V:=⟨_,rfl⟩;obtain ⟨w6,hw6⟩:∃ V,w5.alloc (.cells #[.string ⟨#[99]⟩] 9)=V:=⟨_,rfl⟩;obtain ⟨w7,hw7⟩:∃ V,w6.alloc (.cells #[.slice (some ⟨w1.heap.size,0,none⟩) 1 1,.slice (some ⟨w4.heap.size,0,none⟩) 1 1,.slice (some ⟨w5.heap.size,0,none⟩) 1 1] 38)=V:=⟨_,rfl⟩;have hM:=rms3x hA4 hw5 hw6 hw7;have B5:Below w4.heap.size w4 w5:=hw5 ▸ bL_;have B6:Below w5.heap.size w5 w6:=hw6 ▸ bL_;have B7:Below w6.heap.size w6 w7:=hw7 ▸ bL_;have Bv:Below w4.heap.size w4 w7:=B5.trans ((B6.trans (B7.mono B6.size)).mono B5.size);have HKn:=hI_ (KernelNew_c [[⟨#[97]⟩],[s],[⟨#[99]⟩]] _ w7 hM rfl (lits4k_rights s hs));have Hok:=hI_ (show Kx.kernelOk (Kx.kernelNew [[⟨#[97]⟩],[s],[⟨#[99]⟩]])=true from lits4k_ok s hs);replace Hr:=hI_ (Hr.out.keep Bv);replace Hg:=hI_ (grownBy_trans Hg.out (grown_below (rb:=rb) Bv ⟨Bv.os,Bv.tape,Bv.output⟩))
  replace hX2:=hI_ (hX2.out.below Bv);have hz7:=Bv.size;clear hr hg hM B5 B6 B7 Bv hA hA4 hs HC;go_wp2_with fail;refine HKn.out.mono ?_;rintro en w8 ⟨k0,k1,k2,k3,rfl,hko,hb⟩;obtain ⟨⟨a0,n0,m0,rfl⟩,⟨a1,n1,m1,rfl⟩,⟨a2,n2,m2,rfl⟩,⟨a3,n3,m3,rfl⟩⟩:=hko.sl;have hz8:=hb.size;obtain ⟨w9,hw9⟩:∃ V,w8.alloc (.cells #[.slice a0 n0 m0,.slice a1 n1 m1,.slice a2 n2 m2,.slice a3 n3 m3] 28)=V:=⟨_,rfl⟩;have B9:Below w8.heap.size w8 w9:=hw9 ▸ bL_;have H:=hI_ (show LK w w9 rb (p+1) w.heap.size w8.heap.size (Kx.kernelNew [[⟨#[97]⟩],[s],[⟨#[99]⟩]]) (.slice a0 n0 m0) (.slice a1 n1 m1) (.slice a2 n2 m2) (.slice a3 n3 m3) from
    ⟨⟨(Hr.out.keep hb).keep B9,grownBy_trans (grownBy_trans Hg.out (grown_below (rb:=rb) hb ⟨hb.os,hb.tape,hb.output⟩)) (grown_below (rb:=rb) B9 ⟨B9.os,B9.tape,B9.output⟩),(hX2.out.below hb).below B9,hw9 ▸ BX.new w8 _ _,⟨⟨_,_,_,rfl⟩,⟨_,_,_,rfl⟩,⟨_,_,_,rfl⟩,⟨_,_,_,rfl⟩⟩,by omega⟩,
      ⟨w7.heap.size,w8.heap.size,by omega,.inr nR_,B9.size,hko.rko.r.to B9.size (fun j _ b=>B9.block j b)⟩,Hok.out⟩)
  have hz9:w.heap.size<w8.heap.size:=by omega
  clear hko hb HKn B9 Hr Hg hX2 Hok;go_wp2_with fail
  try rw [hw9]
  refine (pick_c rb _ 5 _ H.out.l.r (by omega) (by omega) (by omega)).mono ?_;rintro en w10 ⟨x,rfl,x0,x1,hr,hg⟩;replace H:=hI_ (H.out.pick hr hg);generalize Kx.kernelNew [[⟨#[97]⟩],[s],[⟨#[99]⟩]]=k0 at H;clear hr hg hw1 hw2 hw3 hw5 hw6 hw7 hw9;go_upto_if 24 with fail;go_cut [5,6,7,8] from 11 (fun _ _ _ _ wx=>∃ (q:Nat) (k:Kx.Kernel) (v0 v1 v2 v3:Value),q≤p+12∧Hid (LK w wx rb q w.heap.size w8.heap.size k v0 v1 v2 v3))
  case first =>
    by_cases hx:x=0
    · subst hx;go_wp2_with fail;go_meet;exact ⟨_,_,_,_,_,_,by omega,H⟩
    · have hx1:0<x:=by omega
      clear hx;go_wp2_with fail;refine (pick_c rb _ 3 _ H.out.l.r (by omega) (by omega) (by omega)).mono ?_;rintro en w11 ⟨y,rfl,y0,y1,hr,hg⟩;replace H:=hI_ (H.out.pick hr hg);clear hr hg;obtain ⟨P,hP⟩:∃ P,(Kx.pagerNew (1+y)).1=P:=⟨_,rfl⟩;have hin:Kx.inR (1+y) 1 6=true:=Kx.inR_true.2 ⟨by omega,by omega⟩;have Pok:=hI_ (show Kx.pagerOk P=true from hP ▸ new_ok hin);have HC:=hI_ (show Calls Tryz.prog 105 #[.int .i64 (1+y)] w11 (MadeP w11 P [.bool true]) from hP ▸ PagerNew_c (1+y) w11 hin);clear hP hin;go_wp2_with fail;refine HC.out.mono ?_;rintro en w12 ⟨u0,u1,u2,u3,u4,u5,u6,rfl,hrp,hb⟩;unfold pagerV;obtain ⟨⟨b0,bn0,bm0,rfl⟩,⟨b1,bn1,bm1,rfl⟩,⟨b2,bn2,bm2,rfl⟩,⟨b3,bn3,bm3,rfl⟩,⟨b4,bn4,bm4,rfl⟩,⟨b5,bn5,bm5,rfl⟩,⟨b6,bn6,bm6,rfl⟩⟩:=hrp.rp.sl;have hz12:=hb.size;have hz11:=H.out.l.x3.lt
      obtain ⟨w13,hw13⟩:∃ V,w12.alloc (.cells #[.slice b0 bn0 bm0,.slice b1 bn1 bm1,.slice b2 bn2 bm2,.slice b3 bn3 bm3,.slice b4 bn4 bm4,.slice b5 bn5 bm5,.slice b6 bn6 bm6,.int .i64 P.hand,.int .i64 P.limit] 103)=V:=⟨_,rfl⟩;have B13:Below w12.heap.size w12 w13:=hw13 ▸ bL_;have HP:=hI_ (show LP w w13 rb _ w.heap.size w8.heap.size w12.heap.size _ _ _ _ P (.slice b0 bn0 bm0) (.slice b1 bn1 bm1) (.slice b2 bn2 bm2) (.slice b3 bn3 bm3) (.slice b4 bn4 bm4) (.slice b5 bn5 bm5) (.slice b6 bn6 bm6) from
        ⟨(H.out.l.below hb).below B13,hw13 ▸ BX.new w12 _ _,⟨w11.heap.size,w12.heap.size,by omega,.inr nR_,B13.size,hrp.r.to B13.size (fun j _ b=>B13.block j b)⟩,Pok.out,hrp.rp.sl,by omega⟩)
      clear hrp hb HC B13 Pok H;go_wp2_with fail
      try rw [hw13]
      refine (pick_c rb _ 4 _ HP.out.l.r (by omega) (by omega) (by omega)).mono ?_;rintro en w14 ⟨n,rfl,hn0,hn1,hr,hg⟩;replace HP:=hI_ (HP.out.pick hr hg);obtain ⟨n,rfl⟩:=Int.eq_ofNat_of_zero_le hn0;clear hr hg hw13 hx1 y0 y1;obtain ⟨g5,hg5⟩:∃ g,w12.heap.size=g:=⟨_,rfl⟩;rw [hg5] at HP ⊢;clear hg5 hz12 hz11;go_wp2_with fail;go_loopw [8] (fun i wr=>∃ (j q:Nat) (P:Kx.Pager) (u0 u1 u2 u3 u4 u5 u6:Value),i=.int .i64 j∧j≤n∧q≤p+4+2*j∧Hid (LP w wr rb q w.heap.size w8.heap.size g5 (.slice a0 n0 m0) (.slice a1 n1 m1) (.slice a2 n2 m2) (.slice a3 n3 m3) P u0 u1 u2 u3 u4 u5 u6)) (fun i _=>n - (intOf i).toNat)
      case atStart=>exact ⟨0,_,_,_,_,_,_,_,_,_,rfl,Nat.zero_le _,by omega,HP⟩
      case round =>
        clear HP;obtain ⟨j,q,P,u0,u1,u2,u3,u4,u5,u6,rfl,hj,hq,HP⟩:=hrel;obtain ⟨⟨b0,bn0,bm0,rfl⟩,⟨b1,bn1,bm1,rfl⟩,⟨b2,bn2,bm2,rfl⟩,⟨b3,bn3,bm3,rfl⟩,⟨b4,bn4,bm4,rfl⟩,⟨b5,bn5,bm5,rfl⟩,⟨b6,bn6,bm6,rfl⟩⟩:=HP.out.sl
        by_cases hlt:j<n
        · have hlI:(j:Int)<(n:Int):=by omega
          obtain ⟨d,hd⟩:∃ d,wr.drew=d:=⟨_,rfl⟩;have Bd:Below wr.heap.size wr d:=hd ▸ Below.drewB bR_;have Hd:=hI_ hd;replace HP:=hI_ (HP.out.below Bd);clear hd Bd;go_wp2_with fail;refine wpL (S:=(fun U:World=>U.cell? ⟨g5,0,none⟩=some (.slice b0 bn0 bm0)∧U.cell? ⟨g5,1,none⟩=some (.slice b1 bn1 bm1)∧U.cell? ⟨g5,2,none⟩=some (.slice b2 bn2 bm2)∧U.cell? ⟨g5,3,none⟩=some (.slice b3 bn3 bm3)∧U.cell? ⟨g5,4,none⟩=some (.slice b4 bn4 bm4)∧U.cell? ⟨g5,5,none⟩=some (.slice b5 bn5 bm5)∧U.cell? ⟨g5,6,none⟩=some (.slice b6 bn6 bm6)∧U.cell? ⟨g5,7,none⟩=some (.int .i64 P.hand)∧U.cell? ⟨g5,8,none⟩=some (.int .i64 P.limit))) (xs:=[10]) (by kernel_rfl) (by rw [Hd.out];exact HP.out.x5.c9) (fun hHeld=>?_)
          rw [Hd.out];rw [Hd.out] at hHeld;refine tL 0 ?_;refine tP 1 ?_;refine tP 3 ?_;refine doL 2 (by kernel_rfl) rfl (fun K hK=>?_);rw [if_pos (by rfl)];go_simp;go_at_call 55;refine (pick_c rb _ 64 _ HP.out.l.r (by omega) (by omega) (by omega)).mono ?_;rintro en V1 ⟨xa,rfl,xa0,xa1,hr,hg⟩;have H1:=hI_ (HP.out.pick hr hg);obtain ⟨ad,rfl⟩:=Int.eq_ofNat_of_zero_le xa0;clear hr hg;refine hK.out _ _ ?_ (fun hHeld=>?_)
          · exact H1.out.x5.c9
          clear hK K;refine nL ?_;refine doL 4 (by kernel_rfl) rfl (fun K hK=>?_);rw [if_pos (by rfl)];go_simp;go_at_call 55;refine (pick_c rb _ 99 _ H1.out.l.r (by omega) (by omega) (by omega)).mono ?_;rintro en V2 ⟨xb,rfl,xb0,xb1,hr,hg⟩;have H2:=hI_ (H1.out.pick hr hg);clear hr hg;refine hK.out _ _ ?_ (fun hHeld=>?_)
          · exact H2.out.x5.c9
          clear hK K;refine nL ?_;have hwr:IntKind.i64.wrap (1+xb)=1+xb:=IntWalk.i64_in _ (by omega);refine tP 5 ?_;clear hwr;refine doL 6 (by kernel_rfl) rfl (fun K hK=>?_);rw [if_pos (by rfl)];go_simp;obtain ⟨P2,hP2⟩:∃ P2,(Kx.pagerStore P ad (1+xb)).1=P2:=⟨_,rfl⟩;have hwd:Kx.inR (1+xb) 0 9999=true:=Kx.inR_true.2 ⟨by omega,by omega⟩;have Pok2:=hI_ (show Kx.pagerOk P2=true from hP2 ▸ store_ok H2.out.ok (by omega) hwd);have HC:=hI_ (hP2 ▸ PagerStore_c P ad (1+xb) _ _ _ _ _ _ _ V2 H2.out.rp H2.out.ok (by omega) hwd);unfold pagerV at HC;clear hP2 hwd;go_at_call 106;refine HC.out.mono ?_;rintro en V3 ⟨z0,z1,z2,z3,z4,z5,z6,rfl,hrp,hb⟩;have H3:=hI_ (H2.out.below hb);have hg5:=H2.out.x5.lt;unfold pagerV;obtain ⟨⟨e0,en0,em0,rfl⟩,⟨e1,en1,em1,rfl⟩,⟨e2,en2,em2,rfl⟩,⟨e3,en3,em3,rfl⟩,⟨e4,en4,em4,rfl⟩,⟨e5,en5,em5,rfl⟩,⟨e6,en6,em6,rfl⟩⟩:=hrp.rp.sl;clear hb HC;refine hK.out _ _ ?_ (fun hHeld=>?_)
          · exact H3.out.x5.c9
          clear hK K;refine nL ?_;refine tP 7 ?_;refine tP 8 ?_;refine tP 9 ?_;obtain ⟨c0,c1,c2,c3,c4,c5,c6,c7,c8⟩:=H3.out.x5.c9;obtain ⟨y0,y1,y2,y3,y4,y5,y6,y7,y8⟩:=H3.out.x5.f9;refine lastL 10 (by rfl) (by kernel_rfl) rfl (fun K hK=>?_);rw [if_pos (by rfl)];go_simp;refine hK.out _ _ ?_;clear hK K;refine nL ?_;refine doneL (by kernel_rfl) ?_ _;obtain ⟨V4,hV4⟩:∃ V,sets V3 g5 0 [.slice e0 en0 em0,.slice e1 en1 em1,.slice e2 en2 em2,.slice e3 en3 em3,.slice e4 en4 em4,.slice e5 en5 em5,.slice e6 en6 em6,.int .i64 P2.hand,.int .i64 P2.limit]=V:=⟨_,rfl⟩
          rw [show ((((((((((V3.setCell ⟨g5,0,none⟩ (.slice e0 en0 em0)).setCell ⟨g5,1,none⟩ (.slice e1 en1 em1)).setCell ⟨g5,2,none⟩ (.slice e2 en2 em2)).setCell ⟨g5,3,none⟩ (.slice e3 en3 em3)).setCell ⟨g5,4,none⟩ (.slice e4 en4 em4)).setCell ⟨g5,5,none⟩ (.slice e5 en5 em5)).setCell ⟨g5,6,none⟩ (.slice e6 en6 em6)).setCell ⟨g5,7,none⟩ (.int .i64 P2.hand)).setCell ⟨g5,8,none⟩ (.int .i64 P2.limit)))=V4 from hV4];have HP4:=hI_ (show LP w V4 rb _ w.heap.size w8.heap.size g5 _ _ _ _ P2 (.slice e0 en0 em0) (.slice e1 en1 em1) (.slice e2 en2 em2) (.slice e3 en3 em3) (.slice e4 en4 em4) (.slice e5 en5 em5) (.slice e6 en6 em6) from hV4 ▸ H3.out.set hrp.rp.sl hg5 hrp Pok2.out);clear hV4 hrp c0 c1 c2 c3 c4 c5 c6 c7 c8 y0 y1 y2 y3 y4 y5 y6 y7 y8 HP H1 H2 H3 Hd hg5;go_wp2_with fail;go_roundw
          case rel=>exact ⟨j+1,_,_,_,_,_,_,_,_,_,by go_num,by omega,by omega,HP4⟩
          case measure=>simp [intOf];omega
        · obtain rfl:j=n:=by omega
          obtain ⟨c0,c1,c2,c3,c4,c5,c6,c7,c8⟩:=HP.out.x5.c9;obtain ⟨r0,r1,r2,r3⟩:=HP.out.l.x3.c4;obtain ⟨fr0,fr1,fr2,fr3⟩:=HP.out.l.x3.f4;have hok:=(pagerOk_lens HP.out.ok).1;go_wp2_with fail;go_meet;exact ⟨_,_,_,_,_,_,by omega,hI_ (HP.out.kern hok)⟩
  case rest =>
    clear H;obtain ⟨q,k,v0,v1,v2,v3,hq,H⟩:=hcut;go_wp2_with fail;refine (pick_c rb _ 24 _ H.out.l.r (by omega) (by omega) (by omega)).mono ?_;rintro en w15 ⟨n,rfl,hn0,hn1,hr,hg⟩;replace H:=hI_ (H.out.pick hr hg);obtain ⟨n,rfl⟩:=Int.eq_ofNat_of_zero_le hn0;clear hr hg;go_wp2_with fail;go_loopw [10] (fun i wr=>∃ (j q:Nat) (k:Kx.Kernel) (v0 v1 v2 v3:Value),i=.int .i64 j∧j≤n∧q≤p+14+30*j∧Hid (LK w wr rb q w.heap.size w8.heap.size k v0 v1 v2 v3)) (fun i _=>n - (intOf i).toNat)
    case atStart=>exact ⟨0,_,_,_,_,_,_,rfl,Nat.zero_le _,by omega,H⟩
    case round =>
      clear H;obtain ⟨j,q,k,v0,v1,v2,v3,rfl,hj,hq,H⟩:=hrel;obtain ⟨⟨a0,n0,m0,rfl⟩,⟨a1,n1,m1,rfl⟩,⟨a2,n2,m2,rfl⟩,⟨a3,n3,m3,rfl⟩⟩:=H.out.l.sl
      by_cases hlt:j<n
      · have hlI:(j:Int)<(n:Int):=by omega
        obtain ⟨d,hd⟩:∃ d,wr.drew=d:=⟨_,rfl⟩;have Bd:Below wr.heap.size wr d:=hd ▸ Below.drewB bR_;have Hd:=hI_ hd;replace H:=hI_ (H.out.below Bd);obtain ⟨_,_,h12,_⟩:=kernelOk_parts H.out.ok;have H12:=hI_ h12;clear hd Bd h12;go_wp2_with fail;refine wpL (S:=(fun U:World=>U.cell? ⟨w8.heap.size,0,none⟩=some (.slice a0 n0 m0)∧U.cell? ⟨w8.heap.size,1,none⟩=some (.slice a1 n1 m1)∧U.cell? ⟨w8.heap.size,2,none⟩=some (.slice a2 n2 m2)∧U.cell? ⟨w8.heap.size,3,none⟩=some (.slice a3 n3 m3))) (xs:=[9]) (by kernel_rfl) (by rw [Hd.out];exact H.out.l.x3.c4) (fun hHeld=>?_)
        rw [Hd.out];rw [Hd.out] at hHeld;refine tL 0 ?_;refine tP 1 ?_;refine tL 2 ?_;refine doL 3 (by kernel_rfl) rfl (fun K hK=>?_);rw [if_pos (by rfl)];go_simp;go_at_call 108;refine (l92Call_c rb _ k.infos _ _ _ _ _ H.out.l.r (by omega) H.out.infos H12.out).mono ?_;rintro en V1 ⟨c,e,rfl,hce,he,hnm,q1,hq1,hr,hg⟩;have H1:=hI_ (H.out.pick hr hg);obtain ⟨r,hrr⟩:∃ r,Kx.callK k c=r:=⟨_,rfl⟩;have Hok1:=hI_ (show Kx.kernelOk r.1=true from hrr ▸ callK_ok H1.out.ok c hce he);have HC:=hI_ (hrr ▸ l22Call_c k c e _ _ _ _ V1 H1.out.rk H1.out.ok (sane_of_ok H1.out.ok) hce he (by omega));have Hg1:=hI_ H1.out.l.x3.lt;clear hr hg hrr hce he hnm;refine hK.out _ _ ?_ (fun hHeld=>?_)
        · exact H1.out.l.x3.c4
        clear hK K;refine nL ?_;refine doL 4 (by kernel_rfl) rfl (fun K hK=>?_);rw [if_pos (by rfl)];go_simp;go_at_call 107;refine HC.out.mono ?_;rintro en V2 ⟨z0,z1,z2,z3,rfl,ho,hb⟩;have H2:=hI_ (H1.out.below hb);obtain ⟨⟨d0,dn0,dm0,rfl⟩,⟨d1,dn1,dm1,rfl⟩,⟨d2,dn2,dm2,rfl⟩,⟨d3,dn3,dm3,rfl⟩⟩:=ho.sl;clear hb HC;refine hK.out _ _ ?_ (fun hHeld=>?_)
        · exact H2.out.l.x3.c4
        clear hK K;refine nL ?_;refine tP 5 ?_;refine tP 6 ?_;refine tP 7 ?_;refine tP 8 ?_;obtain ⟨r0,r1,r2,r3⟩:=H2.out.l.x3.c4;obtain ⟨fr0,fr1,fr2,fr3⟩:=H2.out.l.x3.f4;refine lastL 9 (by rfl) (by kernel_rfl) rfl (fun K hK=>?_);rw [if_pos (by rfl)];go_simp;refine hK.out _ _ ?_;clear hK K;refine nL ?_;refine doneL (by kernel_rfl) ?_ _;obtain ⟨V3,hV3⟩:∃ V,sets V2 w8.heap.size 0 [.slice d0 dn0 dm0,.slice d1 dn1 dm1,.slice d2 dn2 dm2,.slice d3 dn3 dm3]=V:=⟨_,rfl⟩;rw [show (((((V2.setCell ⟨w8.heap.size,0,none⟩ (.slice d0 dn0 dm0)).setCell ⟨w8.heap.size,1,none⟩ (.slice d1 dn1 dm1)).setCell ⟨w8.heap.size,2,none⟩ (.slice d2 dn2 dm2)).setCell ⟨w8.heap.size,3,none⟩ (.slice d3 dn3 dm3)))=V3 from hV3]
        have H3:=hI_ (show LK w V3 rb _ w.heap.size w8.heap.size r.1 (.slice d0 dn0 dm0) (.slice d1 dn1 dm1) (.slice d2 dn2 dm2) (.slice d3 dn3 dm3) from hV3 ▸ H2.out.l.setK ⟨⟨_,_,_,rfl⟩,⟨_,_,_,rfl⟩,⟨_,_,_,rfl⟩,⟨_,_,_,rfl⟩⟩ Hg1.out ho.rko Hok1.out);clear hV3 ho r0 r1 r2 r3 fr0 fr1 fr2 fr3 H H1 H2 Hd Hg1 Hok1;go_wp2_with fail;go_roundw
        case rel=>exact ⟨j+1,_,_,_,_,_,_,by go_num,by omega,by omega,H3⟩
        case measure=>simp [intOf];omega
      · obtain rfl:j=n:=by omega
        obtain ⟨base,hbase,hko,hrd,hgr,hbx⟩:=H.out.fin;have Hko:=hI_ hko;have Hrd:=hI_ hrd;have Hgr:=hI_ hgr;have Hbx:=hI_ hbx;have Hok:=hI_ H.out.ok;have Hbase:=hI_ hbase;obtain ⟨c0,c1,c2,c3⟩:=H.out.l.x3.c4;obtain ⟨r0,r1,r2,r3⟩:=H.out.l.x2.c4;obtain ⟨fr0,fr1,fr2,fr3⟩:=H.out.l.x2.f4;clear hko hrd hgr hbx hbase;go_wp2_with fail;obtain ⟨F,hF⟩:∃ V,sets wr w.heap.size 0 [.slice a0 n0 m0,.slice a1 n1 m1,.slice a2 n2 m2,.slice a3 n3 m3]=V:=⟨_,rfl⟩;rw [show (((((wr.setCell ⟨w.heap.size,0,none⟩ (.slice a0 n0 m0)).setCell ⟨w.heap.size,1,none⟩ (.slice a1 n1 m1)).setCell ⟨w.heap.size,2,none⟩ (.slice a2 n2 m2)).setCell ⟨w.heap.size,3,none⟩ (.slice a3 n3 m3)))=F from hF];rw [hF] at Hko Hrd Hgr Hbx;obtain ⟨e0,e1,e2,e3⟩:=Hbx.out.c4;refine bodyPost_ret (v:=.agg #[.slice a0 n0 m0,.slice a1 n1 m1,.slice a2 n2 m2,.slice a3 n3 m3]) (by simp [results,Tryz.results63,go_sem,e0,e1,e2,e3]) rfl ?_
        exact ⟨k,_,_,_,_,base,rfl,⟨⟨_,_,_,rfl⟩,⟨_,_,_,rfl⟩,⟨_,_,_,rfl⟩,⟨_,_,_,rfl⟩⟩,Hok.out,Nat.le_of_lt Hbase.out,Hko.out,q,by omega,Hrd.out,Hgr.out⟩
end Go.Proofs.YtenebmeaoidnoaaGreatDoor
