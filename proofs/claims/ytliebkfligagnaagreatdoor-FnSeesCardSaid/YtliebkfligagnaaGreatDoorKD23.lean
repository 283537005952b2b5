/- Contracts of draws: DrawKernelReach. (printed by kd23.py) -/
import Derived.Test.YtliebkfligagnaaGreatDoorKDf
set_option linter.all false
namespace Go.Proofs.YtliebkfligagnaaGreatDoor
open Go.RowKit
section
variable {P:Program} {ops:Array Oper} {Q:Exit→Act→World→Prop} {md:Region.Mode} {S S':World→Prop} {xs:List Nat}
theorem Dp (hS:∀ w,S' w→S w):∀ (fuel:Nat) (listed:Array Bool) (a:Act) (w:World),wpAnyL P md ops Q S' xs fuel listed a w→wpAnyL P md ops Q S xs fuel listed a w
 | 0,_,_,_,h=>h
 | fuel+1,_,_,_,h=>⟨h.1,fun i hi=>wpOp_mono (fun a' w' h'=>⟨h'.1.imp id (hS w'),Dp hS fuel _ a' w' h'.2⟩) (h.2 i hi)⟩
end
structure LD (w W:World) (rb q g2 g5:Nat) (k:Kx.Kernel) (v0 v1 v2 v3:Value):Prop where
 b:Below w.heap.size w W
 r:RD W rb q
 x2:BX W g2 36 [.slice none 0 0,.slice none 0 0,.slice none 0 0,.slice none 0 0]
 x5:BX W g5 36 [v0,v1,v2,v3]
 f:∃ base hi,rb<base∧hi≤g5∧hi≤W.heap.size∧MP W base hi v0 v1 v2 v3 k
 s:iQ k
 h:w.heap.size≤g2∧g2<rb∧rb<g5
section
variable {w W V:World} {rb q q' g2 g5:Nat} {k:Kx.Kernel} {v0 v1 v2 v3:Value}
theorem LD.pick (h:LD w W rb q g2 g5 k v0 v1 v2 v3) (hr:RD V rb q') (hg:W.grownBy V (some rb)):LD w V rb q' g2 g5 k v0 v1 v2 v3:=by
 obtain ⟨base,hi,h2,h3,h4,hk⟩:=h.f;have hh:=h.h;exact ⟨h.b.grown hg h.b.size (fun k hk=>by cases hk;omega),hr,(hg.block g2 h.x2.lt (by simp;omega)).trans h.x2,(hg.block g5 h.x5.lt (by simp;omega)).trans h.x5,⟨base,hi,h2,h3,Nat.le_trans h4 hg.size,hk.to hg.size (fun j a b=>hg.block j (by omega) (by simp;omega))⟩,h.s,h.h⟩
theorem LD.below (h:LD w W rb q g2 g5 k v0 v1 v2 v3) (hb:Below W.heap.size W V):LD w V rb q g2 g5 k v0 v1 v2 v3:=
 h.pick (h.r.keep hb) (grown_below hb ⟨hb.os,hb.tape,hb.output⟩)
theorem LD.rk (h:LD w W rb q g2 g5 k v0 v1 v2 v3):RK W v0 v1 v2 v3 k:=by
 obtain ⟨base,hi,h2,h3,h4,hk⟩:=h.f;exact hk W aW (fun _ _ _=>rfl)
theorem LD.fin (h:LD w W rb q g2 g5 k v0 v1 v2 v3):Below w.heap.size w (sets W g2 0 [v0,v1,v2,v3])∧BX (sets W g2 0 [v0,v1,v2,v3]) g2 36 [v0,v1,v2,v3]∧RK (sets W g2 0 [v0,v1,v2,v3]) v0 v1 v2 v3 k∧BX (sets W g2 0 [v0,v1,v2,v3]) g5 36 [v0,v1,v2,v3]:=by
 obtain ⟨base,hi,h2,h3,h4,hk⟩:=h.f;have hh:=h.h;exact ⟨dP hh.1 _ 0 h.b,h.x2.sets _ rfl,hk _ (by rw [jB];exact Nat.le_refl _) (fun j a _=>mG _ _ (by omega) _ _),BX.iq (by omega) _ 0 h.x5⟩
end
def RJ (w:World) (P:List Value→Prop) (en:Ending) (w':World):Prop:=∃ (k:Kx.Kernel) (um ui ue uc:Value) (more:List Value),en=.returned (.tuple (.agg #[um,ui,ue,uc] :: more).toArray)∧P more∧iQ k∧RK w' um ui ue uc k∧Below w.heap.size w w'
def ZN (l:List Value):Prop:=∃ x:Int,l=[.int .i64 x]
end Go.Proofs.YtliebkfligagnaaGreatDoor
