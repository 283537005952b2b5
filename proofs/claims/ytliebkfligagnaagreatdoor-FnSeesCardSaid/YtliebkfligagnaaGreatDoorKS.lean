/- Laws over drawn kernels: what is known on the way. -/
import Derived.Test.YtliebkfligagnaaGreatDoorKDf
import Derived.Test.YtliebkfligagnaaGreatDoorKI18
set_option linter.all false
namespace Go.Proofs.YtliebkfligagnaaGreatDoor
open Go.RowKit
structure LS (w W:World) (g:Nat) (k:Kx.Kernel) (v0 v1 v2 v3:Value):Prop where
 b:Below w.heap.size w W
 x:BX W g 36 [v0,v1,v2,v3]
 r:RK W v0 v1 v2 v3 k
 s:iQ k
 h:w.heap.size≤g
section
variable {w W V w1 w2:World} {g:Nat} {k:Kx.Kernel} {v0 v1 v2 v3:Value}
theorem LS.go (h:LS w W g k v0 v1 v2 v3) (hb:Below W.heap.size W V):LS w V g k v0 v1 v2 v3:=
 ⟨h.b.trans (hb.mono h.b.size),h.x.below hb,h.r.below hb,h.s,h.h⟩
theorem LS.start (hs:iQ k) (hk:RK w1 v0 v1 v2 v3 k) (hb:Below w.heap.size w w1) (hw2:w1.alloc (.cells #[v0,v1,v2,v3] 36)=w2) (hg:w1.heap.size=g):LS w w2 g k v0 v1 v2 v3:=by
 have B:Below w1.heap.size w1 w2:=hw2 ▸ dm;subst hg;exact ⟨hb.trans (B.mono hb.size),hw2 ▸ BX.new w1 _ _,hk.below B,hs,hb.size⟩
end
theorem SV {k:Kx.Kernel} (h:Kx.az k=true) {i:Nat} (hi:i<k.cache.length) :
  ∃ (e pg f R ad:Nat) (at_:Int) (wt:Bool),k.cache.getD i Kx.Cached.zero=⟨(e:Int),(pg:Int),(f:Int),wt⟩∧e<3∧pg<16∧f<12∧ad=pg*4∧ad<64∧R<12∧(Kx.au k.ah e).root=(R:Int)∧Kx.walk k.mem R ad=(((f:Int),at_,wt),0):=by
 have hp:=aI h;have hc:Kx.eH k (k.cache.getD i Kx.Cached.zero)=true∧Kx.dn (k.cache.getD i Kx.Cached.zero)=true:=by
  have e1:k.cache.getD i Kx.Cached.zero=k.cache[i]:=by simp [hi]
  rw [e1];constructor
  ·unfold Kx.az at h;simp only [Bool.and_eq_true] at h;have:=h.2;unfold Kx.gV at this;exact List.all_eq_true.1 this _ (List.getElem_mem hi)
  have:=(Kx.jq.1 hp.2.2.2.1).1
  exact this _ (List.getElem_mem hi)
 obtain ⟨ht,ho⟩:=hc;generalize k.cache.getD i Kx.Cached.zero=x at ht ho;obtain ⟨xe,xp,xf,xw⟩:=x;unfold Kx.dn at ho;simp only [Bool.and_eq_true] at ho;obtain ⟨⟨h1,h2⟩,h3⟩:=ho;have h1:=Kx.ay.1 h1;have h2:=Kx.ay.1 h2;have h3:=Kx.ay.1 h3;obtain ⟨e,rfl⟩:=Int.eq_ofNat_of_zero_le h1.1;obtain ⟨pg,rfl⟩:=Int.eq_ofNat_of_zero_le h2.1;obtain ⟨f,rfl⟩:=Int.eq_ofNat_of_zero_le h3.1;have he:e<3:=by omega
 unfold Kx.eH at ht;simp only [Bool.and_eq_true,Bool.not_eq_true',decide_eq_false_iff_not,beq_iff_eq,Int.toNat_natCast] at ht;obtain ⟨hr0,⟨hw1,hw2⟩,hw3⟩:=ht;obtain ⟨R,hR⟩:=Int.eq_ofNat_of_zero_le (show 0≤(Kx.au k.ah e).root by omega);have VM:=hp.2.2.2.2.2 e he;rw [hR] at hw1 hw2 hw3 VM;simp only [Int.toNat_natCast] at hw1 hw2 hw3;refine ⟨e,pg,f,R,pg*4,(Kx.walk k.mem R (pg*4)).1.2.1,xw,rfl,he,by omega,by omega,rfl,by omega,by omega,hR,?_⟩;rw [show pg*4=4*pg by omega];generalize hq:Kx.walk k.mem R (4*pg)=r at hw1 hw2 hw3;obtain ⟨⟨f2,at2,wt2⟩,c2⟩:=r;simp only at hw1 hw2 hw3;rw [hw1,hw2,hw3]
end Go.Proofs.YtliebkfligagnaaGreatDoor
