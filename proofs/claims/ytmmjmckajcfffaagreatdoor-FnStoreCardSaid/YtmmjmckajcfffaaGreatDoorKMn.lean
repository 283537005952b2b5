/- KM, KD23, KD25, KC26, KJ23, KN, joined. -/
import Derived.Test.YtmmjmckajcfffaaGreatDoorKE
import Derived.Test.YtmmjmckajcfffaaGreatDoorKDf
import Derived.Test.YtmmjmckajcfffaaGreatDoorKI12
import Derived.Test.YtmmjmckajcfffaaGreatDoorKJ5
import Derived.Test.YtmmjmckajcfffaaGreatDoorKJf
set_option maxHeartbeats 8000000
set_option maxRecDepth 100000
set_option linter.all false
open Nat renaming le_trans->A1,zero_le->A2,not_lt_zero->A3,le_refl->A4,add_zero->A5
open Int renaming eq_ofNat_of_zero_le->A6
open Go.Value renaming slice->A0
open Go.Proofs.Tryz
namespace Go.Proofs.YtmmjmckajcfffaaGreatDoor
open Go.RowKit Kx
theorem ace (l:List Kx.Str) (v u:Value) (w:World) (h1:RS df 1 w v l) (h2:RS df 1 w u l):Calls prog 30 #[v,u] w (aez w):=by
 have hl:=h1.1;obtain ⟨a,cap,rfl,_,_⟩:=RS.val h1;obtain ⟨a',cap',rfl,_,_⟩:=RS.val h2;have H1:=af h1;have H2:=af h2;clear h1 h2;go_enter func30,ntmps30;go_wp2_with fail;go_loopw [5] (fun i wr=>∃ k:Nat,i=I_ k/\k<=l.length/\TI (Below w.heap.size w wr)) (fun i _=>l.length - (intOf i).toNat)
 case atStart=>exact ⟨0,rfl,A2 _,Below.refl _ _⟩
 case round =>
  obtain ⟨k,rfl,hk,hb⟩:=hrel
  by_cases hlt:k<l.length
  ·have kQ:(k:Int)<(l.length:Int):=by omega
   obtain ⟨b,off,cap1,e,_,hc⟩:=(RS.below H1.o hb.o).at (k:=k) hlt;obtain ⟨rfl,_,rfl⟩:=Za e;clear e;obtain ⟨b',off',cap1,e,_,hc'⟩:=(RS.below H2.o hb.o).at (k:=k) hlt;obtain ⟨rfl,_,rfl⟩:=Za e;clear e;generalize l[k]=x at hc hc';have g0:=hc 0 _ rfl;have q0:=hc' 0 _ rfl;rw [Nat.mul_one,A5] at g0 q0;clear hc hc';go_wp2_with fail;go_quiet (fail);go_wp2_with fail;go_roundw
   case rel=>exact ⟨k+1,by go_num,by omega,hb.o.trans ((below_drewN wr _).mono hb.o.size)⟩
   case measure=>simp [intOf];omega
  obtain rfl:k=l.length:=by omega
  go_wp2_with fail;go_ret;exact ⟨rfl,hb.o⟩
theorem acg (l:List aG) (v u:Value) (w:World) (h1:RS bH 3 w v l) (h2:RS bH 3 w u l):Calls prog 22 #[v,u] w (aez w):=by
 have hl:=h1.1;obtain ⟨a,cap,rfl,_,_⟩:=RS.val h1;obtain ⟨a',cap',rfl,_,_⟩:=RS.val h2;have H1:=af h1;have H2:=af h2;clear h1 h2;go_enter func22,ntmps22;go_wp2_with fail;go_loopw [5] (fun i wr=>∃ k:Nat,i=I_ k/\k<=l.length/\TI (Below w.heap.size w wr)) (fun i _=>l.length - (intOf i).toNat)
 case atStart=>exact ⟨0,rfl,A2 _,Below.refl _ _⟩
 case round =>
  obtain ⟨k,rfl,hk,hb⟩:=hrel
  by_cases hlt:k<l.length
  ·have kQ:(k:Int)<(l.length:Int):=by omega
   obtain ⟨b,off,cap1,e,_,hc⟩:=(RS.below H1.o hb.o).at (k:=k) hlt;obtain ⟨rfl,_,rfl⟩:=Za e;clear e;obtain ⟨b',off',cap1,e,_,hc'⟩:=(RS.below H2.o hb.o).at (k:=k) hlt;obtain ⟨rfl,_,rfl⟩:=Za e;clear e;generalize l[k]=x at hc hc';have g0:=hc 0 _ rfl;have q0:=hc' 0 _ rfl;have g1:=hc 1 _ rfl;have q1:=hc' 1 _ rfl;have g2:=hc 2 _ rfl;have q2:=hc' 2 _ rfl;rw [A5] at g0 q0;clear hc hc';go_wp2_with fail;go_quiet (fail);go_wp2_with fail;go_roundw
   case rel=>exact ⟨k+1,by go_num,by omega,hb.o.trans ((below_drewN wr _).mono hb.o.size)⟩
   case measure=>simp [intOf];omega
  obtain rfl:k=l.length:=by omega
  go_wp2_with fail;go_ret;exact ⟨rfl,hb.o⟩
theorem aci (l:List Kx.Cached) (v u:Value) (w:World) (h1:RS b_ 4 w v l) (h2:RS b_ 4 w u l):Calls prog 48 #[v,u] w (aez w):=by
 have hl:=h1.1;obtain ⟨a,cap,rfl,_,_⟩:=RS.val h1;obtain ⟨a',cap',rfl,_,_⟩:=RS.val h2;have H1:=af h1;have H2:=af h2;clear h1 h2;go_enter func48,ntmps48;go_wp2_with fail;go_loopw [5] (fun i wr=>∃ k:Nat,i=I_ k/\k<=l.length/\TI (Below w.heap.size w wr)) (fun i _=>l.length - (intOf i).toNat)
 case atStart=>exact ⟨0,rfl,A2 _,Below.refl _ _⟩
 case round =>
  obtain ⟨k,rfl,hk,hb⟩:=hrel
  by_cases hlt:k<l.length
  ·have kQ:(k:Int)<(l.length:Int):=by omega
   obtain ⟨b,off,cap1,e,_,hc⟩:=(RS.below H1.o hb.o).at (k:=k) hlt;obtain ⟨rfl,_,rfl⟩:=Za e;clear e;obtain ⟨b',off',cap1,e,_,hc'⟩:=(RS.below H2.o hb.o).at (k:=k) hlt;obtain ⟨rfl,_,rfl⟩:=Za e;clear e;generalize l[k]=x at hc hc';have g0:=hc 0 _ rfl;have q0:=hc' 0 _ rfl;have g1:=hc 1 _ rfl;have q1:=hc' 1 _ rfl;have g2:=hc 2 _ rfl;have q2:=hc' 2 _ rfl;have g3:=hc 3 _ rfl;have q3:=hc' 3 _ rfl;rw [A5] at g0 q0;clear hc hc';go_wp2_with fail;go_quiet (fail);go_wp2_with fail;go_roundw
   case rel=>exact ⟨k+1,by go_num,by omega,hb.o.trans ((below_drewN wr _).mono hb.o.size)⟩
   case measure=>simp [intOf];omega
  obtain rfl:k=l.length:=by omega
  go_wp2_with fail;go_ret;exact ⟨rfl,hb.o⟩
theorem ab4 (l:List (List Int)) (v u:Value) (w:World) (h1:RM w v l) (h2:RM w u l):Calls prog 26 #[v,u] w (aez w):=by
 obtain ⟨_,a,cap,rfl,_,_⟩:=h1.len;obtain ⟨_,a',cap',rfl,_,_⟩:=h2.len;have hl:=h1.len.1;have H1:=af h1;have H2:=af h2;clear h1 h2;go_enter func26,ntmps26;go_wp2_with fail;go_loopw [5] (fun i wr=>∃ k:Nat,i=I_ k/\k<=l.length/\TI (Below w.heap.size w wr)) (fun i _=>l.length - (intOf i).toNat)
 case atStart=>exact ⟨0,rfl,A2 _,Below.refl _ _⟩
 case round =>
  obtain ⟨k,rfl,hk,hb⟩:=hrel
  by_cases hlt:k<l.length
  ·have kQ:(k:Int)<(l.length:Int):=by omega
   obtain ⟨b,off,cap1,u1,e,hbl,hx,m_⟩:=H1.o.at hlt;obtain ⟨rfl,_,rfl⟩:=Za e;clear e;obtain ⟨b',off',cap1,u2,e,aag,hx',acj⟩:=H2.o.at hlt;obtain ⟨rfl,_,rfl⟩:=Za e;clear e;rw [show Kx.row l k=l[k] from by simp [Kx.row,hlt]] at m_ acj;obtain ⟨ra,rc,rfl⟩:=m_.val;obtain ⟨sa,sc,rfl⟩:=acj.val;obtain ⟨d,hd⟩:=XP wr.drew;have Hd:=af hd;have Bd:=af (show Below w.heap.size w d from hd ▸ Below.bz hb.o);have HC:=af (fun W (hb:Below w.heap.size w W)=>QB l[k] l[k] _ _ W (m_.below hb) (acj.below hb))
   have K2:=af (show ∀ W,Below w.heap.size w W->((fun wz:World=>wz.cell? ⟨b,off+k,none⟩=some (A0 ra l[k].length rc)/\wz.cell? ⟨b',off'+k,none⟩=some (A0 sa l[k].length sc))) W from fun W hb=>⟨(hb.cell (p:=⟨b,off+k,none⟩) hbl).trans hx,(hb.cell (p:=⟨b',off'+k,none⟩) aag).trans hx'⟩)
   clear hx hx' m_ acj hbl aag hd;go_wp2_with fail;refine afY (xs:=[]) K2 (by rw [Hd.o];exact Bd.o) fun hHeld=>?_
   rw [Hd.o];rw [Hd.o] at hHeld;refine tL 0 ?_;refine tL 1 ?_;refine tL 2 ?_;refine tL 3 ?_;refine tL 4 ?_;refine tL 5 ?_;refine tL 6 ?_;refine tL 7 ?_;refine aho 8 fun K hK=>?_;go_simp;go_at_call 20;refine (HC.o d Bd.o).mono ?_;rintro en v1 ⟨rfl,hb1⟩;have Hb1:=af (Bd.o.trans (hb1.mono Bd.o.size));clear hb1;refine afX hK (K2.o _ Hb1.o) fun hHeld=>?_
   clear hK K;refine tL 9 ?_;refine gY (by kernel_rfl) ?_ _
   try rw [show (decide (l[k]=l[k]))=true from by simp]
   go_wp2_with fail;go_roundw
   case rel=>exact ⟨k+1,by go_num,by omega,Hb1.o⟩
   case measure=>simp [intOf];omega
  obtain rfl:k=l.length:=by omega
  go_wp2_with fail;go_ret;exact ⟨rfl,hb.o⟩
theorem acG (l:List Kx.Env) (v u:Value) (w:World) (h1:uo w v l) (h2:uo w u l):Calls prog 47 #[v,u] w (aez w):=by
 obtain ⟨_,a,cap,rfl,_,_⟩:=h1.len;obtain ⟨_,a',cap',rfl,_,_⟩:=h2.len;have hl:=h1.len.1;have H1:=af h1;have H2:=af h2;clear h1 h2;go_enter func47,ntmps47;go_wp2_with fail;go_loopw [5] (fun i wr=>∃ k:Nat,i=I_ k/\k<=l.length/\TI (Below w.heap.size w wr)) (fun i _=>l.length - (intOf i).toNat)
 case atStart=>exact ⟨0,rfl,A2 _,Below.refl _ _⟩
 case round =>
  obtain ⟨k,rfl,hk,hb⟩:=hrel
  by_cases hlt:k<l.length
  ·have kQ:(k:Int)<(l.length:Int):=by omega
   obtain ⟨b,off,cap1,u1,e,hbl,hx,hy,m_⟩:=H1.o.at hlt;obtain ⟨rfl,_,rfl⟩:=Za e;clear e;obtain ⟨b',off',cap1,u2,e,aag,hx',hy',acj⟩:=H2.o.at hlt;obtain ⟨rfl,_,rfl⟩:=Za e;clear e;obtain ⟨ra,rc,rfl,_,_⟩:=RS.val m_;obtain ⟨sa,sc,rfl,_,_⟩:=RS.val acj;obtain ⟨d,hd⟩:=XP wr.drew;have Hd:=af hd;have Bd:=af (show Below w.heap.size w d from hd ▸ Below.bz hb.o);have HC:=af (fun W (hb:Below w.heap.size w W)=>ace _ _ _ W (RS.below m_ hb) (RS.below acj hb))
   have K4:=af (show ∀ W,Below w.heap.size w W->((fun wz:World=>wz.cell? ⟨b,off+k*2,none⟩=some (A0 ra (au l k).aB.length rc)/\wz.cell? ⟨b,off+k*2+1,none⟩=some (I_ (au l k).root)/\wz.cell? ⟨b',off'+k*2,none⟩=some (A0 sa (au l k).aB.length sc)/\wz.cell? ⟨b',off'+k*2+1,none⟩=some (I_ (au l k).root))) W from fun W hb=>⟨(hb.cell (p:=⟨b,off+k*2,none⟩) hbl).trans hx,(hb.cell (p:=⟨b,off+k*2+1,none⟩) hbl).trans hy,(hb.cell (p:=⟨b',off'+k*2,none⟩) aag).trans hx',(hb.cell (p:=⟨b',off'+k*2+1,none⟩) aag).trans hy'⟩)
   clear hx hx' hy hy' m_ acj hbl aag hd;go_wp2_with fail;refine afY (xs:=[]) K4 (by rw [Hd.o];exact Bd.o) fun hHeld=>?_
   rw [Hd.o];rw [Hd.o] at hHeld;refine tL 0 ?_;refine tL 1 ?_;refine tL 2 ?_;refine tL 3 ?_;refine tL 4 ?_;refine tL 5 ?_;refine tL 6 ?_;refine tL 7 ?_;refine tL 8 ?_;refine tL 9 ?_;refine tL 10 ?_;refine tL 11 ?_;refine tL 12 ?_;refine tL 13 ?_;refine tL 14 ?_;refine tL 15 ?_;refine tL 16 ?_;refine tL 17 ?_;refine tL 18 ?_;refine tL 19 ?_;refine tL 20 ?_;refine tL 21 ?_;refine aho 22 fun K hK=>?_;go_simp;go_at_call 30;refine (HC.o d Bd.o).mono ?_;rintro en v1 ⟨rfl,hb1⟩;have Hb1:=af (Bd.o.trans (hb1.mono Bd.o.size));clear hb1;refine afX hK (K4.o _ Hb1.o) fun hHeld=>?_
   clear hK K;refine tL 23 ?_;refine tL 24 ?_;refine gY (by kernel_rfl) ?_ _;go_wp2_with fail;go_roundw
   case rel=>exact ⟨k+1,by go_num,by omega,Hb1.o⟩
   case measure=>simp [intOf];omega
  obtain rfl:k=l.length:=by omega
  go_wp2_with fail;go_ret;exact ⟨rfl,hb.o⟩
theorem adE (k:Kx.Kernel) (vm vi ve vc um ui ue uc:Value) (w:World) (h:RK w vm vi ve vc k) (h':RK w um ui ue uc k):Calls prog 18 #[.agg #[vm,vi,ve,vc],.agg #[um,ui,ue,uc]] w (aez w):=by
 obtain ⟨w0,hw0⟩:=XP (w.alloc (.cells #[vm,vi,ve,vc] 28));obtain ⟨w1,hw1⟩:=XP (w0.alloc (.cells #[um,ui,ue,uc] 28));have B0:Below w.heap.size w w0:=hw0 ▸ dm;have B1:Below w0.heap.size w0 w1:=hw1 ▸ dm;have Bw:=af (B0.trans (B1.mono B0.size));have X0:=af (show BX w1 w.heap.size 28 [vm,vi,ve,vc] from (hw0 ▸ BX.new w _ _:BX w0 _ _ _).below B1);have X1:=af (show BX w1 w0.heap.size 28 [um,ui,ue,uc] from hw1 ▸ BX.new w0 _ _);have H:=af h;have H':=af h';clear h h' B0 B1;go_enter func18,ntmps18;have p0:=X0.o.c4;have q0:=X1.o.c4;go_wp2_with fail;clear hw0 hw1;refine (ab4 _ _ _ _ (H.o.m.below Bw.o) (H'.o.m.below Bw.o)).mono ?_;rintro en w2 ⟨rfl,hb⟩;replace X0:=af (X0.o.below hb);replace X1:=af (X1.o.below hb);replace Bw:=af (Bw.o.trans (hb.mono Bw.o.size));clear p0 q0 hb
 have p0:=X0.o.c4;have q0:=X1.o.c4;go_wp2_with fail;refine (acg _ _ _ _ (RS.below H.o.i Bw.o) (RS.below H'.o.i Bw.o)).mono ?_;rintro en w3 ⟨rfl,hb⟩;replace X0:=af (X0.o.below hb);replace X1:=af (X1.o.below hb);replace Bw:=af (Bw.o.trans (hb.mono Bw.o.size));clear p0 q0 hb;have p0:=X0.o.c4;have q0:=X1.o.c4;go_wp2_with fail;refine (acG _ _ _ _ (H.o.e.below Bw.o) (H'.o.e.below Bw.o)).mono ?_;rintro en w4 ⟨rfl,hb⟩;replace X0:=af (X0.o.below hb);replace X1:=af (X1.o.below hb);replace Bw:=af (Bw.o.trans (hb.mono Bw.o.size));clear p0 q0 hb;have p0:=X0.o.c4;have q0:=X1.o.c4;go_wp2_with fail;refine (aci _ _ _ _ (RS.below H.o.c Bw.o) (RS.below H'.o.c Bw.o)).mono ?_;rintro en w5 ⟨rfl,hb⟩
 replace X0:=af (X0.o.below hb);replace X1:=af (X1.o.below hb);replace Bw:=af (Bw.o.trans (hb.mono Bw.o.size));clear p0 q0 hb;have p0:=X0.o.c4;have q0:=X1.o.c4;go_wp2_with fail;go_ret;exact ⟨rfl,Bw.o⟩
section
variable {P:Program} {ops:Array Oper} {Q:Exit->Act->World->Prop} {md:Region.Mode} {S S':World->Prop} {xs:List Nat}
end
structure LD (w W:World) (rb q g2 g5:Nat) (k:Kx.Kernel) (v0 v1 v2 v3:Value):Prop where
 b:Below w.heap.size w W
 r:RD W rb q
 x2:BX W g2 28 [A0 none 0 0,A0 none 0 0,A0 none 0 0,A0 none 0 0]
 x5:BX W g5 28 [v0,v1,v2,v3]
 f:∃ base hi,rb<base/\hi<=g5/\hi<=W.heap.size/\MP W base hi v0 v1 v2 v3 k
 s:iQ k
 h:w.heap.size<=g2/\g2<rb/\rb<g5
section
variable {w W V:World} {rb q q' g2 g5:Nat} {k:Kx.Kernel} {v0 v1 v2 v3:Value}
theorem LD.pick (h:LD w W rb q g2 g5 k v0 v1 v2 v3) (hr:RD V rb q') (hg:W.grownBy V (some rb)):LD w V rb q' g2 g5 k v0 v1 v2 v3:=by
 obtain ⟨base,hi,h2,h3,h4,hk⟩:=h.f;have hh:=h.h;exact ⟨h.b.grown hg h.b.size (fun k hk=>by cases hk;omega),hr,(hg.block g2 h.x2.lt (by simp;omega)).trans h.x2,(hg.block g5 h.x5.lt (by simp;omega)).trans h.x5,⟨base,hi,h2,h3,A1 h4 hg.size,hk.to hg.size (fun j a b=>hg.block j (by omega) (by simp;omega))⟩,h.s,h.h⟩
end
theorem LD.ag {w W:World} {rb q g2 g5:Nat} {k:Kx.Kernel} {v0 v1 v2 v3:Value} (h:LD w W rb q g2 g5 k v0 v1 v2 v3):∀ V,W.grownBy V (some rb)->bV V v1 k.ag:=fun V hg=>by
 obtain ⟨base,hi,h2,h3,h4,hk⟩:=h.f;exact (hk V hg.size (fun j a b=>hg.block j (by omega) (by simp;omega))).i
structure LE (w W:World) (rb q g2 g3 g5:Nat) (k:Kx.Kernel) (v0 v1 v2 v3:Value):Prop where
 d:LD w W rb q g2 g5 k v0 v1 v2 v3
 x3:BX W g3 30 [I_ 0,I_ 0,I_ 0,I_ 0,I_ 0,.string ⟨#[]⟩]
 h3:w.heap.size<=g3/\g3<rb/\g2<g3
 n12:k.ag.length=12
theorem LE.pick {w W V:World} {rb q q' g2 g3 g5:Nat} {k:Kx.Kernel} {v0 v1 v2 v3:Value} (h:LE w W rb q g2 g3 g5 k v0 v1 v2 v3) (hr:RD V rb q') (hg:W.grownBy V (some rb)):LE w V rb q' g2 g3 g5 k v0 v1 v2 v3:=
 ⟨h.d.pick hr hg,(hg.block g3 h.x3.lt (by have:=h.h3;simp;omega)).trans h.x3,h.h3,h.n12⟩
theorem LE.below {w W V:World} {rb q g2 g3 g5:Nat} {k:Kx.Kernel} {v0 v1 v2 v3:Value} (h:LE w W rb q g2 g3 g5 k v0 v1 v2 v3) (hb:Below W.heap.size W V):LE w V rb q g2 g3 g5 k v0 v1 v2 v3:=
 h.pick (h.d.r.keep hb) (grown_below hb ⟨hb.os,hb.tape,hb.output⟩)
theorem LE.set {w W:World} {rb q g2 g3 g5 g6:Nat} {k:Kx.Kernel} {v0 v1 v2 v3:Value} (h:LE w W rb q g2 g3 g5 k v0 v1 v2 v3) (hg:g5<g6) (hi:∃ base hi,rb<base/\hi<=g5/\hi<=W.heap.size/\MP W base hi v0 v1 v2 v3 k:=h.d.f) (i:Nat) (v:Value):LE w (W.setCell ⟨g6,i,none⟩ v) rb q g2 g3 g5 k v0 v1 v2 v3:=by
 obtain ⟨base,hi,h2,h3,h4,hk⟩:=hi;have hh:=h.d.h;have h33:=h.h3;have hs:(W.setCell ⟨g6,i,none⟩ v).heap.size=W.heap.size:=by simp [World.setCell]
 exact ⟨⟨h.d.b.setCell (p:=⟨g6,i,none⟩) (by show w.heap.size<=g6;omega) v,h.d.r.grown (aK W g6 i v) (fun k hk=>by cases hk;omega),h.d.x2.other (by omega) i v,h.d.x5.other (by omega) i v,
  ⟨base,hi,h2,h3,by rw [hs];exact h4,hk.to (by rw [hs];exact A4 _) (fun j a b=>Below.heap_setCell W ⟨g6,i,none⟩ v j (by intro e;have:j=g6:=e;omega))⟩,h.d.s,h.d.h⟩,h.x3.other (by omega) i v,h.h3,h.n12⟩
theorem LE.fin {w W:World} {rb q g2 g3 g5:Nat} {k:Kx.Kernel} {v0 v1 v2 v3:Value} (h:LE w W rb q g2 g3 g5 k v0 v1 v2 v3) (l:List Value) (hl:l.length=6) :
  (Below w.heap.size w (sets (sets W g2 0 [v0,v1,v2,v3]) g3 0 l)/\BX (sets (sets W g2 0 [v0,v1,v2,v3]) g3 0 l) g2 28 [v0,v1,v2,v3]/\BX (sets (sets W g2 0 [v0,v1,v2,v3]) g3 0 l) g3 30 l/\RK (sets (sets W g2 0 [v0,v1,v2,v3]) g3 0 l) v0 v1 v2 v3 k) /\
  (Below w.heap.size w (sets (sets W g3 0 l) g2 0 [v0,v1,v2,v3])/\BX (sets (sets W g3 0 l) g2 0 [v0,v1,v2,v3]) g2 28 [v0,v1,v2,v3]/\BX (sets (sets W g3 0 l) g2 0 [v0,v1,v2,v3]) g3 30 l/\RK (sets (sets W g3 0 l) g2 0 [v0,v1,v2,v3]) v0 v1 v2 v3 k):=by
 obtain ⟨base,hi,h2,h4,h5,hk⟩:=h.d.f;have hh:=h.d.h;have h3:=h.h3;refine ⟨⟨dP h3.1 _ 0 (dP hh.1 _ 0 h.d.b),BX.iq (by omega) _ 0 (h.d.x2.sets _ rfl),(BX.iq (by omega) _ 0 h.x3).sets _ hl,?_⟩,⟨dP hh.1 _ 0 (dP h3.1 _ 0 h.d.b),(BX.iq (by omega) _ 0 h.d.x2).sets _ rfl,BX.iq (by omega) _ 0 (h.x3.sets _ hl),?_⟩⟩ <;>
 exact hk _ (by rw [jB,jB];exact A4 _) (fun j a _=>(mG _ _ (by omega) _ _).trans (mG _ _ (by omega) _ _))
def ad_ (w:World) (en:Ending) (w':World):Prop:=∃ (k:Kx.Kernel) (c:Kx.Call) (um ui ue uc:Value),en=.returned (.tuple #[.agg #[um,ui,ue,uc],dW c])/\(Sl um/\Sl ui/\Sl ue/\Sl uc)/\iQ k/\c.name.size<=9223372036854775807/\c.c<=9223372036854775807/\RK w' um ui ue uc k/\Below w.heap.size w w'
theorem adi (v:Value) (n:Nat) (w:World) (h:RB w v n):Calls prog 15 #[v] w (ad_ w):=by
 obtain ⟨w1,hw1⟩:=XP (w.alloc (.cells #[A0 none 0 0,A0 none 0 0,A0 none 0 0,A0 none 0 0] 28));obtain ⟨w0,hw0⟩:=XP (w1.alloc (.cells #[I_ 0,I_ 0,I_ 0,I_ 0,I_ 0,.string ⟨#[]⟩] 30));have B1a:Below w.heap.size w w1:=hw1 ▸ dm;have B0a:Below w1.heap.size w1 w0:=hw0 ▸ dm;have B1:=af (B1a.trans (B0a.mono B1a.size));have s1:w.heap.size<w1.heap.size:=by rw [<-hw1];simp
 have s0:w1.heap.size<w0.heap.size:=by rw [<-hw0];simp
 have X2:=af (show BX w0 w.heap.size 28 [A0 none 0 0,A0 none 0 0,A0 none 0 0,A0 none 0 0] from (hw1 ▸ BX.new w _ _:BX w1 _ _ _).below B0a);have X3:=af (show BX w0 w1.heap.size 30 [I_ 0,I_ 0,I_ 0,I_ 0,I_ 0,.string ⟨#[]⟩] from (hw0 ▸ BX.new w1 _ _:BX w0 _ _ _));have HB:=af (h.below B1.o);clear h B1a B0a;go_enter func15,ntmps15;go_wp2_with fail;clear hw1 hw0;refine (KR _ _ _ HB.o).mono ?_;rintro en w2 ⟨rb,rfl,hrb,hr,hb⟩;have hz2:=hb.size;have B2:=af (B1.o.trans (hb.mono B1.o.size));have HX:=af (X2.o.below hb);have HX3:=af (X3.o.below hb);have Hr:=af hr;have hrl:=hr.lt;clear hr hb X2 X3 HB B1;go_wp2_with fail;refine (JA rb 0 _ Hr.o (by omega)).mono ?_;rintro en w3 ⟨k,_,_,_,_,base,rfl,⟨⟨a0,n0,m0,rfl⟩,⟨a1,n1,m1,rfl⟩,⟨a2,n2,m2,rfl⟩,⟨a3,n3,m3,rfl⟩⟩,hs,h12,hbase,hko,q,hq,hr2,hg⟩;have hz3:=hg.size
 obtain ⟨w4,hw4⟩:∃ V,w3.alloc (.cells #[A0 a0 n0 m0,A0 a1 n1 m1,A0 a2 n2 m2,A0 a3 n3 m3] 28)=V:=⟨_,rfl⟩;have B4:Below w3.heap.size w3 w4:=hw4 ▸ dm;have Y2:BX w3 w.heap.size 28 [A0 none 0 0,A0 none 0 0,A0 none 0 0,A0 none 0 0]:=(hg.block w.heap.size HX.o.lt (by simp;omega)).trans HX.o;have Y3:BX w3 w1.heap.size 30 [I_ 0,I_ 0,I_ 0,I_ 0,I_ 0,.string ⟨#[]⟩]:=(hg.block w1.heap.size HX3.o.lt (by simp;omega)).trans HX3.o;have B3:=B2.o.grown hg (show w.heap.size<=w2.heap.size by omega) (fun k hk=>by cases hk;omega);have H:=af (show LE w w4 rb q w.heap.size w1.heap.size w3.heap.size k (A0 a0 n0 m0) (A0 a1 n1 m1) (A0 a2 n2 m2) (A0 a3 n3 m3) from
  ⟨⟨B3.trans (B4.mono B3.size),hr2.keep B4,Y2.below B4,hw4 ▸ BX.new w3 _ _,⟨base,w3.heap.size,by omega,A4 _,B4.size,hko.r.to B4.size (fun j _ b=>B4.block j b)⟩,hs,by omega⟩,Y3.below B4,by omega,h12⟩)
 obtain ⟨g5,hg5⟩:∃ g,w3.heap.size=g:=⟨_,rfl⟩;rw [hg5] at H;have TR:=af (show w1.heap.size<g5/\g5<w4.heap.size by rw [<-hw4];simp;omega);clear hs hko hr2 hg B3 B4 Y2 Y3 hbase HX HX3 B2 Hr;have p0:=H.o.d.x5.c4;go_wp2_with fail
 try rw [hw4]
 try rw [hg5]
 clear hw4 hg5 p0;refine (Ij rb _ k.ag _ _ _ _ _ H.o.d.r (by omega) H.o.d.ag H.o.n12).mono ?_;rintro en w5 ⟨⟨bQ,ce0,ca,cb,cc,bg⟩,e,rfl,-,-,hnm,hcm,q1,hq1,hr,hg⟩;unfold dW;have Hnm:=af (show bg.size<=9223372036854775807 from A1 hnm (by decide));have Hcm:=af (show cc<=9223372036854775807 from hcm);replace H:=af (H.o.pick hr hg);have Hz5:=af (show g5<w5.heap.size from Nat.lt_of_lt_of_le TR.o.2 hg.size);obtain ⟨w6,hw6⟩:∃ V,w5.alloc (.cells #[I_ bQ,I_ ce0,I_ ca,I_ cb,I_ cc,.string bg] 30)=V:=⟨_,rfl⟩;have B6:Below w5.heap.size w5 w6:=hw6 ▸ dm;have XC:=af (show BX w6 w5.heap.size 30 [I_ bQ,I_ ce0,I_ ca,I_ cb,I_ cc,.string bg] from hw6 ▸ BX.new w5 _ _);replace H:=af (H.o.below B6);obtain ⟨g6,OT⟩:∃ g,w5.heap.size=g:=⟨_,rfl⟩;rw [OT] at XC Hz5;clear hr hg hnm hcm B6
 go_wp2_with fail
 try rw [hw6]
 try rw [OT]
 clear hw6 OT;refine (aN rb _ 20 _ H.o.d.r (by omega) (by omega) (by omega)).mono ?_;rintro en w7 ⟨x,rfl,x0,x1,hr,hg⟩;replace XC:=af (show BX w7 g6 30 _ from (hg.block g6 XC.o.lt (by have:=H.o.d.h;have:=Hz5.o;simp;omega)).trans XC.o);replace H:=af (H.o.pick hr hg);clear hr hg
 by_cases hx:x=0
 case' pos =>
  subst hx;have HB1:Below w7.heap.size w7 (w7.alloc (.cells #[I_ (-1),I_ 3] 3)):=dm;have HO:=af (OS.lit (l:=[-1,3]) (f:=iR) (sz:=1) (e:=3) (w:=w7) (base:=w7.heap.size) aW #[I_ (-1),I_ 3] rfl rfl (by decide)).oi;have H0:=af (H.o.below HB1);have XC0:=af (XC.o.below HB1);have hrl:=H.o.d.r.lt;clear HB1;go_wp2_with fail;refine (aN rb _ 2 _ H0.o.d.r (by omega) (by omega) (by omega)).mono ?_;rintro en V1 ⟨x1,rfl,z1,t1,hr,hg⟩;obtain ⟨nn1,rfl⟩:=A6 z1;obtain ⟨bb,oo,cc',ev,_,hc⟩:=(HO.o.jT (rb:=rb) hrl hg).ri.at (k:=nn1) (by simp;omega);obtain ⟨⟨rfl,rfl,_⟩,_,rfl⟩:=Zb ev;clear ev;generalize ([-1,3]:List Int)[nn1]'_=JF at hc;rw [Nat.zero_add] at hc;replace XC:=af (show BX V1 g6 30 _ from (hg.block g6 XC0.o.lt (by have:=H0.o.d.h;have:=Hz5.o;simp;omega)).trans XC0.o)
  replace H:=af (H0.o.pick hr hg);clear hr hg HO H0 XC0;have q1:=XC.o.cell 1;have y1:=XC.o.frozen 1;go_wp2_with fail;clear q1 y1 hc;obtain ⟨Wf,hWf⟩:∃ V,V1.setCell ⟨g6,1,none⟩ (I_ JF)=V:=⟨_,rfl⟩;replace H:=af (hWf ▸ H.o.set (g6:=g6) Hz5.o (i:=1) (v:=I_ JF));replace XC:=af (show BX Wf g6 30 [I_ bQ,I_ JF,I_ ca,I_ cb,I_ cc,.string bg] from hWf ▸ XC.o.set 1 (I_ JF));rw [hWf];clear hWf
 case' neg =>
  have hxb:(x==0)=false:=by simpa using hx
  clear hx;go_wp2_with fail;obtain ⟨JF,afd⟩:∃ x,x=ce0:=⟨_,rfl⟩;subst afd;obtain ⟨Wf,hWf⟩:∃ x,x=w7:=⟨_,rfl⟩;subst hWf
 all_goals
  obtain ⟨d,hd⟩:=XP Wf.drew;have Bd:Below Wf.heap.size Wf d:=hd ▸ Below.bz fZ;have Hd:=af hd;replace H:=af (H.o.below Bd);replace XC:=af (XC.o.below Bd);clear hd Bd;have HF:=af (H.o.fin [I_ bQ,I_ JF,I_ ca,I_ cb,I_ cc,.string bg] rfl);have afe:=af (show w1.heap.size≠g6 by have:=Hz5.o;have:=TR.o;omega);have aff:=af (show w.heap.size≠g6 by have:=Hz5.o;have:=TR.o;omega);have afg:=af (show w.heap.size≠g5 by have:=TR.o;omega);have afh:=af (show w1.heap.size≠g5 by have:=TR.o;omega);have H23:=af (show w.heap.size≠w1.heap.size by omega);have Hs:=af H.o.d.s
  try go_wp2_with fail
  refine uu (S:=(fun U:World=>U.cell? ⟨g5,0,none⟩=some (A0 a0 n0 m0)/\U.cell? ⟨g5,1,none⟩=some (A0 a1 n1 m1)/\U.cell? ⟨g5,2,none⟩=some (A0 a2 n2 m2)/\U.cell? ⟨g5,3,none⟩=some (A0 a3 n3 m3)/\U.cell? ⟨g6,0,none⟩=some (I_ bQ)/\U.cell? ⟨g6,1,none⟩=some (I_ JF)/\U.cell? ⟨g6,2,none⟩=some (I_ ca)/\U.cell? ⟨g6,3,none⟩=some (I_ cb)/\U.cell? ⟨g6,4,none⟩=some (I_ cc)/\U.cell? ⟨g6,5,none⟩=some (.string bg))) (xs:=[]) (by kernel_rfl) (by rw [Hd.o];exact ⟨H.o.d.x5.cell 0,H.o.d.x5.cell 1,H.o.d.x5.cell 2,H.o.d.x5.cell 3,XC.o.cell 0,XC.o.cell 1,XC.o.cell 2,XC.o.cell 3,XC.o.cell 4,XC.o.cell 5⟩) (fun hHeld=>?_)
  rw [Hd.o];rw [Hd.o] at hHeld;refine tL 0 ?_;refine tL 1 ?_;refine lI 2 (by kernel_rfl) rfl (fun K hK=>?_);have r0:=H.o.d.x2.c4;have jh:=H.o.d.x2.f4;rw [if_pos (by rfl)];go_simp;obtain ⟨F,hF⟩:=XP (sets d w.heap.size 0 [A0 a0 n0 m0,A0 a1 n1 m1,A0 a2 n2 m2,A0 a3 n3 m3]);rw [afA d,hF];clear r0 jh
  have XF5:=af (show BX F g5 28 [A0 a0 n0 m0,A0 a1 n1 m1,A0 a2 n2 m2,A0 a3 n3 m3] from hF ▸ BX.iq (Ne.symm afg.o) _ 0 H.o.d.x5);have XF6:=af (show BX F g6 30 [I_ bQ,I_ JF,I_ ca,I_ cb,I_ cc,.string bg] from hF ▸ BX.iq (Ne.symm aff.o) _ 0 XC.o);have XFo:=af (show BX F w1.heap.size 30 [I_ 0,I_ 0,I_ 0,I_ 0,I_ 0,.string ⟨#[]⟩] from hF ▸ BX.iq (Ne.symm H23.o) _ 0 H.o.x3);rw [hF] at HF;clear hF;refine afX hK ⟨XF5.o.cell 0,XF5.o.cell 1,XF5.o.cell 2,XF5.o.cell 3,XF6.o.cell 0,XF6.o.cell 1,XF6.o.cell 2,XF6.o.cell 3,XF6.o.cell 4,XF6.o.cell 5⟩ fun hHeld=>?_
  clear hK K;refine lI 3 (by kernel_rfl) rfl (fun K hK=>?_);have d0:=XFo.o.c6;have f0:=XFo.o.frozen 0;have f1:=XFo.o.frozen 1;have f2:=XFo.o.frozen 2;have f3:=XFo.o.frozen 3;have f4:=XFo.o.frozen 4;have f5:=XFo.o.frozen 5;rw [if_pos (by rfl)];go_simp;obtain ⟨FF,hFF⟩:=XP (sets F w1.heap.size 0 [I_ bQ,I_ JF,I_ ca,I_ cb,I_ cc,.string bg]);rw [afB F,hFF];clear d0 f0 f1 f2 f3 f4 f5
  have YF5:=af (show BX FF g5 28 [A0 a0 n0 m0,A0 a1 n1 m1,A0 a2 n2 m2,A0 a3 n3 m3] from hFF ▸ BX.iq (Ne.symm afh.o) _ 0 XF5.o);have YF6:=af (show BX FF g6 30 [I_ bQ,I_ JF,I_ ca,I_ cb,I_ cc,.string bg] from hFF ▸ BX.iq (Ne.symm afe.o) _ 0 XF6.o);replace HF:=af HF.o.1;rw [hFF] at HF;clear hFF;refine afX hK ⟨YF5.o.cell 0,YF5.o.cell 1,YF5.o.cell 2,YF5.o.cell 3,YF6.o.cell 0,YF6.o.cell 1,YF6.o.cell 2,YF6.o.cell 3,YF6.o.cell 4,YF6.o.cell 5⟩ fun hHeld=>?_
  clear hK K;refine gY (by kernel_rfl) ?_ _;go_wp2_with fail;obtain ⟨HFB,HFK,HFC,HFR⟩:=HF.o;obtain ⟨e0,e1,e2,e3⟩:=HFK.c4;obtain ⟨b0,b1,b2,b3,b4,b5⟩:=HFC.c6;refine af7 (by simp [results,results15,go_sem,e0,e1,e2,e3,b0,b1,b2,b3,b4,b5]<;>rfl) ?_;exact ⟨k,⟨bQ,JF,ca,cb,cc,bg⟩,_,_,_,_,rfl,⟨⟨_,_,_,rfl⟩,⟨_,_,_,rfl⟩,⟨_,_,_,rfl⟩,⟨_,_,_,rfl⟩⟩,Hs.o,Hnm.o,Hcm.o,HFR,HFB⟩
theorem OM.nil (w:World) (base hi:Nat):OM w base hi (A0 none 0 0) []:=⟨[],rfl,⟨OS.nil _ _,fun k h=>by cases h⟩,fun i h=>absurd h (A3 _),fun i j h=>absurd h (A3 _)⟩
theorem OE.nil (w:World) (base hi:Nat):OE w base hi (A0 none 0 0) []:=⟨[],rfl,⟨OS.nil _ _,fun k h=>by cases h⟩,fun i h=>absurd h (A3 _),fun i j h=>absurd h (A3 _)⟩
theorem KO.zero (w:World) (base:Nat):KO w base (A0 none 0 0) (A0 none 0 0) (A0 none 0 0) (A0 none 0 0) Kx.Kernel.zero:=⟨OM.nil _ _ _,OS.nil _ _,OE.nil _ _ _,OS.nil _ _⟩
theorem ac9 (k:Kx.Kernel) (c:Kx.Call) (vm vi ve vc:Value) (w:World) (h:RK w vm vi ve vc k) (hs:iQ k) (hss:c.name.size<=9223372036854775807) :
  Calls prog 17 #[.agg #[vm,vi,ve,vc],dW c] w (JE w (QH k c)):=by
 obtain ⟨bQ,JF,ca,cb,cc,bg⟩:=c;obtain ⟨_,am,cm,rfl,_,_⟩:=h.m.len;obtain ⟨ai,ci,rfl,_,_⟩:=RS.val h.i;obtain ⟨_,ae,ce,rfl,_,_⟩:=h.e.len;obtain ⟨ac,cq,rfl,_,_⟩:=RS.val h.c;obtain ⟨w0,hw0⟩:=XP (w.alloc (.cells #[A0 am k.mem.length cm,A0 ai k.ag.length ci,A0 ae k.ah.length ce,A0 ac k.cache.length cq] 28));obtain ⟨w1,hw1⟩:=XP (w0.alloc (.cells #[I_ bQ,I_ JF,I_ ca,I_ cb,I_ cc,.string bg] 30));obtain ⟨w2,hw2⟩:=XP (w1.alloc (.cells #[A0 none 0 0,A0 none 0 0,A0 none 0 0,A0 none 0 0] 28));have B0:Below w.heap.size w w0:=hw0 ▸ dm;have B1:Below w0.heap.size w0 w1:=hw1 ▸ dm;have B2:Below w1.heap.size w1 w2:=hw2 ▸ dm;have Bw:=af (show Below w.heap.size w w2 from B0.trans ((B1.trans (B2.mono B1.size)).mono B0.size))
 have X0:=af (show BX w2 w.heap.size 28 [A0 am k.mem.length cm,A0 ai k.ag.length ci,A0 ae k.ah.length ce,A0 ac k.cache.length cq] from ((hw0 ▸ BX.new w _ _:BX w0 _ _ _).below B1).below B2);have X1:=af (show BX w2 w0.heap.size 30 [I_ bQ,I_ JF,I_ ca,I_ cb,I_ cc,.string bg] from (hw1 ▸ BX.new w0 _ _:BX w1 _ _ _).below B2);have X2:=af (show BX w2 w1.heap.size 28 [A0 none 0 0,A0 none 0 0,A0 none 0 0,A0 none 0 0] from (hw2 ▸ BX.new w1 _ _));have s0:w.heap.size<w0.heap.size:=by rw [<-hw0];simp
 have s1:w0.heap.size<w1.heap.size:=by rw [<-hw1];simp
 have s2:w1.heap.size<w2.heap.size:=by rw [<-hw2];simp
 have HR:=af (show RK w _ _ _ _ k from h);have HS:=af hs;have Jr:=af (show bg.size<=9223372036854775807 from hss);have HV:=af (kJ k _ _ _ _ w2 (show RK w2 _ _ _ _ k from ⟨HR.o.m.below Bw.o,RS.below HR.o.i Bw.o,HR.o.e.below Bw.o,RS.below HR.o.c Bw.o⟩) hs);have HK:=af (show QH k ⟨bQ,JF,ca,cb,cc,bg⟩=if !az k||!Kx.bK JF 0 2 then (Kx.Kernel.zero,0,5) else cO k ⟨bQ,JF,ca,cb,cc,bg⟩ from rfl);unfold dW;clear h hs hss B0 B1 B2;go_enter func17,ntmps17;have p0:=X0.o.c4;have c0:=X1.o.c6;go_wp2_with fail;clear hw0 hw1 hw2;refine HV.o.mono ?_;rintro en w3 ⟨rfl,hb⟩;clear HV;have Hz3:=af (show w2.heap.size<=w3.heap.size from hb.size)
 replace X0:=af (X0.o.below hb);replace X1:=af (X1.o.below hb);replace X2:=af (X2.o.below hb);replace Bw:=af (Bw.o.trans (hb.mono Bw.o.size));clear p0 c0;have p0:=X0.o.c4;have c0:=X1.o.c6;clear hb
 cases hok:az k with
 | false =>
  have HF:=af (show QH k ⟨bQ,JF,ca,cb,cc,bg⟩=(Kx.Kernel.zero,0,5) by rw [HK.o,hok];rfl);clear hok;have r0:=X2.o.c4;have jh:=X2.o.f4;go_wp2_with fail;obtain ⟨F,hF⟩:=XP (sets w3 w1.heap.size 0 [A0 none 0 0,A0 none 0 0,A0 none 0 0,A0 none 0 0]);rw [afA w3,hF];have BF:Below w.heap.size w F:=hF ▸ dP (by omega) _ 0 Bw.o;have XF:BX F w1.heap.size 28 [A0 none 0 0,A0 none 0 0,A0 none 0 0,A0 none 0 0]:=hF ▸ X2.o.sets _ rfl;have KF:KO F w.heap.size (A0 none 0 0) (A0 none 0 0) (A0 none 0 0) (A0 none 0 0) Kx.Kernel.zero:=KO.zero _ _;obtain ⟨e0,e1,e2,e3⟩:=XF.c4
  refine af7 (by simp [results,results17,go_sem,e0,e1,e2,e3]<;>rfl) ?_;rw [HF.o];exact ⟨_,_,_,_,rfl,KF,BF⟩
 | true =>
  go_wp2_with fail;refine (qZ _ _).mono ?_;rintro en w4 ⟨rfl,rfl⟩
  cases hin:Kx.bK JF 0 2 with
  | false =>
   have HF:=af (show QH k ⟨bQ,JF,ca,cb,cc,bg⟩=(Kx.Kernel.zero,0,5) by rw [HK.o,hok,hin];rfl);clear hok hin;have r0:=X2.o.c4;have jh:=X2.o.f4;go_wp2_with fail;obtain ⟨F,hF⟩:=XP (sets w3 w1.heap.size 0 [A0 none 0 0,A0 none 0 0,A0 none 0 0,A0 none 0 0]);rw [afA w3,hF];have BF:Below w.heap.size w F:=hF ▸ dP (by omega) _ 0 Bw.o;have XF:BX F w1.heap.size 28 [A0 none 0 0,A0 none 0 0,A0 none 0 0,A0 none 0 0]:=hF ▸ X2.o.sets _ rfl;have KF:KO F w.heap.size (A0 none 0 0) (A0 none 0 0) (A0 none 0 0) (A0 none 0 0) Kx.Kernel.zero:=KO.zero _ _;obtain ⟨e0,e1,e2,e3⟩:=XF.c4
   refine af7 (by simp [results,results17,go_sem,e0,e1,e2,e3]<;>rfl) ?_;rw [HF.o];exact ⟨_,_,_,_,rfl,KF,BF⟩
  | true =>
   obtain ⟨he0,he2⟩:=Kx.ay.1 hin;obtain ⟨e,rfl⟩:=A6 he0;obtain ⟨r,hr⟩:=XP (cO k ⟨bQ,(e:Int),ca,cb,cc,bg⟩);have HF:=af (show QH k ⟨bQ,(e:Int),ca,cb,cc,bg⟩=r by rw [HK.o,hok,hin];exact hr);have HC:=af (Ap k ⟨bQ,(e:Int),ca,cb,cc,bg⟩ e _ _ _ _ w3 (show RK w3 _ _ _ _ k from ⟨HR.o.m.below Bw.o,RS.below HR.o.i Bw.o,HR.o.e.below Bw.o,RS.below HR.o.c Bw.o⟩) hok HS.o rfl (by omega) Jr.o);rw [hr] at HC;unfold dW at HC;clear hok hin he0 he2 hr HK;go_wp2_with fail;refine HC.o.mono ?_;rintro en w5 ⟨um,ui,ue,uc,rfl,hko,hb⟩;clear HC;have tZ:=af hko;have Hb5:=af hb;replace X0:=af (X0.o.below hb);replace X1:=af (X1.o.below hb);replace X2:=af (X2.o.below hb);replace Bw:=af (Bw.o.trans (hb.mono Bw.o.size));clear p0 c0
   obtain ⟨⟨a0,n0,m0,rfl⟩,⟨a1,n1,m1,rfl⟩,⟨a2,n2,m2,rfl⟩,⟨a3,n3,m3,rfl⟩⟩:=hko.sl;clear hko hb;have r0:=X2.o.c4;have jh:=X2.o.f4;go_wp2_with fail;obtain ⟨F,hF⟩:=XP (sets w5 w1.heap.size 0 [A0 a0 n0 m0,A0 a1 n1 m1,A0 a2 n2 m2,A0 a3 n3 m3]);rw [afA w5,hF];have BF:Below w.heap.size w F:=hF ▸ dP (by omega) _ 0 Bw.o;have XF:BX F w1.heap.size 28 [A0 a0 n0 m0,A0 a1 n1 m1,A0 a2 n2 m2,A0 a3 n3 m3]:=hF ▸ X2.o.sets _ rfl;have KF:KO F w.heap.size (A0 a0 n0 m0) (A0 a1 n1 m1) (A0 a2 n2 m2) (A0 a3 n3 m3) r.1:=hF ▸ (tZ.o.up (Up.sets (by have:=Hz3.o;omega) _ 0 w5)).mono (by have:=Hz3.o;omega)
   obtain ⟨e0,e1,e2,e3⟩:=XF.c4;refine af7 (by simp [results,results17,go_sem,e0,e1,e2,e3]<;>rfl) ?_;rw [HF.o];exact ⟨_,_,_,_,rfl,KF,BF⟩
theorem ado (k:Kx.Kernel) (c:Kx.Call) (e:Nat) (vm vi ve vc:Value) (w:World) (h:RK w vm vi ve vc k) (hok:az k=true) (hs:iQ k) (hce:c.env=e) (he:e<3) (hss:c.name.size<=9223372036854775807) (hcc:c.c<=9223372036854775807) :
  Calls prog 42 #[.agg #[vm,vi,ve,vc],dW c] w (JE w (cO k c)):=by
 obtain ⟨bQ,JF,ca,cb,cc,bg⟩:=c;simp only at hce hcc;subst hce;obtain ⟨_,am,cm,rfl,_,_⟩:=h.m.len;obtain ⟨ai,ci,rfl,_,_⟩:=RS.val h.i;obtain ⟨_,ae,ce,rfl,_,_⟩:=h.e.len;obtain ⟨ac,cq,rfl,_,_⟩:=RS.val h.c;obtain ⟨w0,hw0⟩:=XP (w.alloc (.cells #[A0 am k.mem.length cm,A0 ai k.ag.length ci,A0 ae k.ah.length ce,A0 ac k.cache.length cq] 28));obtain ⟨w1,hw1⟩:=XP (w0.alloc (.cells #[I_ bQ,I_ e,I_ ca,I_ cb,I_ cc,.string bg] 30));obtain ⟨w2,hw2⟩:=XP (w1.alloc (.cells #[A0 none 0 0,A0 none 0 0,A0 none 0 0,A0 none 0 0] 28));have B0:Below w.heap.size w w0:=hw0 ▸ dm;have B1:Below w0.heap.size w0 w1:=hw1 ▸ dm;have B2:Below w1.heap.size w1 w2:=hw2 ▸ dm;have Bw:=af (show Below w.heap.size w w2 from B0.trans ((B1.trans (B2.mono B1.size)).mono B0.size))
 have X0:=af (show BX w2 w.heap.size 28 [A0 am k.mem.length cm,A0 ai k.ag.length ci,A0 ae k.ah.length ce,A0 ac k.cache.length cq] from ((hw0 ▸ BX.new w _ _:BX w0 _ _ _).below B1).below B2);have X1:=af (show BX w2 w0.heap.size 30 [I_ bQ,I_ e,I_ ca,I_ cb,I_ cc,.string bg] from (hw1 ▸ BX.new w0 _ _:BX w1 _ _ _).below B2);have X2:=af (show BX w2 w1.heap.size 28 [A0 none 0 0,A0 none 0 0,A0 none 0 0,A0 none 0 0] from (hw2 ▸ BX.new w1 _ _));have s0:w.heap.size<w0.heap.size:=by rw [<-hw0];simp
 have s1:w0.heap.size<w1.heap.size:=by rw [<-hw1];simp
 have s2:w1.heap.size<w2.heap.size:=by rw [<-hw2];simp
 have HR:=af (show RK w _ _ _ _ k from h);have HS:=af hs;have Jr:=af (show bg.size<=9223372036854775807 from hss);have HOw:=af (fun W (hb:Below w.heap.size w W)=>ad2 k _ _ _ _ W (HR.o.below hb))
 have bF:=af hok;have He:=af he;have Vd:=af hcc;obtain ⟨r,hr⟩:=XP (qm k ⟨bQ,e,ca,cb,cc,bg⟩);have HK:=af (show cO k ⟨bQ,e,ca,cb,cc,bg⟩=if r.2.2≠0 then (k,0,r.2.2) else r by unfold cO;rw [hr]);have HD:=af (fun (G:Nat) (um ui ue uc:Value) (W:World) (hO:KO W w2.heap.size um ui ue uc k) (hG:BX W G 28 [um,ui,ue,uc]) (h1:w2.heap.size<=W.heap.size) (h2:w2.heap.size<=G)=>hr ▸ adp k ⟨bQ,e,ca,cb,cc,bg⟩ e w2.heap.size G um ui ue uc W hO hG h1 h2 hok hs rfl he hss hcc)
 unfold dO at HD;unfold dW;clear h hok hs hss he hcc hr B0 B1 B2;go_enter func42,ntmps42;have p0:=X0.o.c4;have c0:=X1.o.c6;go_wp2_with fail;clear hw0 hw1 hw2;refine (HOw.o w2 Bw.o).mono ?_;rintro en w3 ⟨um,ui,ue,uc,rfl,hko,hb⟩;have Hz3:=af (show w2.heap.size<=w3.heap.size from hb.size);replace X0:=af (X0.o.below hb);replace X1:=af (X1.o.below hb);replace X2:=af (X2.o.below hb);replace Bw:=af (Bw.o.trans (hb.mono Bw.o.size));obtain ⟨⟨a0,n0,m0,rfl⟩,⟨a1,n1,m1,rfl⟩,⟨a2,n2,m2,rfl⟩,⟨a3,n3,m3,rfl⟩⟩:=hko.sl;obtain ⟨w4,hw4⟩:∃ V,w3.alloc (.cells #[A0 a0 n0 m0,A0 a1 n1 m1,A0 a2 n2 m2,A0 a3 n3 m3] 28)=V:=⟨_,rfl⟩;have B4:Below w3.heap.size w3 w4:=hw4 ▸ dm;have XG:=af (show BX w4 w3.heap.size 28 [A0 a0 n0 m0,A0 a1 n1 m1,A0 a2 n2 m2,A0 a3 n3 m3] from hw4 ▸ BX.new w3 _ _)
 replace X0:=af (X0.o.below B4);replace X1:=af (X1.o.below B4);replace X2:=af (X2.o.below B4);replace Bw:=af (Bw.o.trans (B4.mono Bw.o.size));have HC:=af (HD.o w3.heap.size _ _ _ _ w4 (hko.below B4) XG.o (A1 hb.size B4.size) hb.size);clear p0 c0;have p0:=X0.o.c4;have c0:=X1.o.c6;clear hb hko B4 HD;go_wp2_with fail
 try rw [hw4]
 clear hw4;refine HC.o.mono ?_;rintro en w5 ⟨rfl,hb5,hd5⟩;clear HC;replace X0:=af (show BX w5 w.heap.size 28 _ from (hb5.block w.heap.size (by omega)).trans X0.o);replace X2:=af (show BX w5 w1.heap.size 28 _ from (hb5.block w1.heap.size s2).trans X2.o);replace Bw:=af (Bw.o.trans (hb5.mono (by omega)));have Hz5:=af (show w2.heap.size<=w5.heap.size from A1 Hz3.o (A1 (by have:=XG.o.lt;omega) hb5.size));have Hd5:=af hd5;clear p0 c0 hb5 hd5
 by_cases h0:r.2.2=0
 ·obtain ⟨um,ui,ue,uc,hX,hK⟩:=Hd5.o h0;have HF:=af (show cO k ⟨bQ,e,ca,cb,cc,bg⟩=r by rw [HK.o,if_neg (by simp [h0])]);obtain ⟨⟨b0,q0,z0,rfl⟩,⟨b1,q1,z1,rfl⟩,⟨b2,q2,z2,rfl⟩,⟨b3,q3,z3,rfl⟩⟩:=hK.sl;have g0:=hX.c4;have HKO:=af hK;have UI:(r.2.2 != 0)=false:=by simp [h0]
  have H0:=af h0;clear hX hK h0;have r0:=X2.o.c4;have jh:=X2.o.f4;go_wp2_with fail;obtain ⟨F,hF⟩:=XP (sets w5 w1.heap.size 0 [A0 b0 q0 z0,A0 b1 q1 z1,A0 b2 q2 z2,A0 b3 q3 z3]);rw [afA w5,hF];have BF:Below w.heap.size w F:=hF ▸ dP (by omega) _ 0 Bw.o;have XF:BX F w1.heap.size 28 [A0 b0 q0 z0,A0 b1 q1 z1,A0 b2 q2 z2,A0 b3 q3 z3]:=hF ▸ X2.o.sets _ rfl;have KF:KO F w.heap.size (A0 b0 q0 z0) (A0 b1 q1 z1) (A0 b2 q2 z2) (A0 b3 q3 z3) r.1:=hF ▸ (HKO.o.up (Up.sets (by have:=Hz5.o;omega) _ 0 w5)).mono (by have:=Hz5.o;omega);obtain ⟨e0,e1,e2,e3⟩:=XF.c4
  refine af7 (by simp [results,results42,go_sem,e0,e1,e2,e3]<;>rfl) ?_;rw [HF.o];exact ⟨_,_,_,_,by rw [H0.o],KF,BF⟩
 have HF:=af (show cO k ⟨bQ,e,ca,cb,cc,bg⟩=(k,0,r.2.2) by rw [HK.o,if_pos h0]);have UI:(r.2.2 != 0)=true:=by simpa using h0
 have HO2:=HOw.o w5 Bw.o;replace HO2:=af HO2;clear h0 Hd5;have p0:=X0.o.c4;go_wp2_with fail;refine HO2.o.mono ?_;rintro en w6 ⟨um,ui,ue,uc,rfl,hko,hb⟩;obtain ⟨⟨b0,q0,z0,rfl⟩,⟨b1,q1,z1,rfl⟩,⟨b2,q2,z2,rfl⟩,⟨b3,q3,z3,rfl⟩⟩:=hko.sl;have HKO:=af hko;replace X2:=af (X2.o.below hb);replace Bw:=af (Bw.o.trans (hb.mono Bw.o.size));have Hz6:=af hb.size;clear hko hb p0 HO2 HOw;have r0:=X2.o.c4;have jh:=X2.o.f4;go_wp2_with fail;obtain ⟨F,hF⟩:=XP (sets w6 w1.heap.size 0 [A0 b0 q0 z0,A0 b1 q1 z1,A0 b2 q2 z2,A0 b3 q3 z3]);rw [afA w6,hF]
 have BF:Below w.heap.size w F:=hF ▸ dP (by omega) _ 0 Bw.o;have XF:BX F w1.heap.size 28 [A0 b0 q0 z0,A0 b1 q1 z1,A0 b2 q2 z2,A0 b3 q3 z3]:=hF ▸ X2.o.sets _ rfl;have KF:KO F w.heap.size (A0 b0 q0 z0) (A0 b1 q1 z1) (A0 b2 q2 z2) (A0 b3 q3 z3) k:=hF ▸ (HKO.o.up (Up.sets (by have:=Hz5.o;omega) _ 0 w6)).mono (by have:=Hz5.o;omega);obtain ⟨e0,e1,e2,e3⟩:=XF.c4;refine af7 (by simp [results,results42,go_sem,e0,e1,e2,e3]<;>rfl) ?_;rw [HF.o];exact ⟨_,_,_,_,rfl,KF,BF⟩
theorem adb (k:Kx.Kernel) (c:Kx.Call) (vm vi ve vc:Value) (w:World) (h:RK w vm vi ve vc k) (hs:iQ k) (hss:c.name.size<=9223372036854775807) (hcc:c.c<=9223372036854775807) :
  Calls prog 16 #[.agg #[vm,vi,ve,vc],dW c] w (JE w (QH k c)):=by
 obtain ⟨bQ,JF,ca,cb,cc,bg⟩:=c;obtain ⟨_,am,cm,rfl,_,_⟩:=h.m.len;obtain ⟨ai,ci,rfl,_,_⟩:=RS.val h.i;obtain ⟨_,ae,ce,rfl,_,_⟩:=h.e.len;obtain ⟨ac,cq,rfl,_,_⟩:=RS.val h.c;obtain ⟨w0,hw0⟩:=XP (w.alloc (.cells #[A0 am k.mem.length cm,A0 ai k.ag.length ci,A0 ae k.ah.length ce,A0 ac k.cache.length cq] 28));obtain ⟨w1,hw1⟩:=XP (w0.alloc (.cells #[I_ bQ,I_ JF,I_ ca,I_ cb,I_ cc,.string bg] 30));obtain ⟨w2,hw2⟩:=XP (w1.alloc (.cells #[A0 none 0 0,A0 none 0 0,A0 none 0 0,A0 none 0 0] 28));have B0:Below w.heap.size w w0:=hw0 ▸ dm;have B1:Below w0.heap.size w0 w1:=hw1 ▸ dm;have B2:Below w1.heap.size w1 w2:=hw2 ▸ dm;have Bw:=af (show Below w.heap.size w w2 from B0.trans ((B1.trans (B2.mono B1.size)).mono B0.size))
 have X0:=af (show BX w2 w.heap.size 28 [A0 am k.mem.length cm,A0 ai k.ag.length ci,A0 ae k.ah.length ce,A0 ac k.cache.length cq] from ((hw0 ▸ BX.new w _ _:BX w0 _ _ _).below B1).below B2);have X1:=af (show BX w2 w0.heap.size 30 [I_ bQ,I_ JF,I_ ca,I_ cb,I_ cc,.string bg] from (hw1 ▸ BX.new w0 _ _:BX w1 _ _ _).below B2);have X2:=af (show BX w2 w1.heap.size 28 [A0 none 0 0,A0 none 0 0,A0 none 0 0,A0 none 0 0] from (hw2 ▸ BX.new w1 _ _));have s0:w.heap.size<w0.heap.size:=by rw [<-hw0];simp
 have s1:w0.heap.size<w1.heap.size:=by rw [<-hw1];simp
 have s2:w1.heap.size<w2.heap.size:=by rw [<-hw2];simp
 have HR:=af (show RK w _ _ _ _ k from h);have HS:=af hs;have Jr:=af (show bg.size<=9223372036854775807 from hss);have Vd:=af (show cc<=9223372036854775807 from hcc);clear hcc;have HV:=af (mX k _ _ _ _ w2 (show RK w2 _ _ _ _ k from ⟨HR.o.m.below Bw.o,RS.below HR.o.i Bw.o,HR.o.e.below Bw.o,RS.below HR.o.c Bw.o⟩) hs);have HK:=af (show QH k ⟨bQ,JF,ca,cb,cc,bg⟩=if !az k||!Kx.bK JF 0 2 then (Kx.Kernel.zero,0,5) else cO k ⟨bQ,JF,ca,cb,cc,bg⟩ from rfl);unfold dW;clear h hs hss B0 B1 B2;go_enter func16,ntmps16;have p0:=X0.o.c4;have c0:=X1.o.c6;go_wp2_with fail;clear hw0 hw1 hw2;refine HV.o.mono ?_;rintro en w3 ⟨rfl,hb⟩;clear HV;have Hz3:=af (show w2.heap.size<=w3.heap.size from hb.size)
 replace X0:=af (X0.o.below hb);replace X1:=af (X1.o.below hb);replace X2:=af (X2.o.below hb);replace Bw:=af (Bw.o.trans (hb.mono Bw.o.size));clear p0 c0;have p0:=X0.o.c4;have c0:=X1.o.c6;clear hb
 cases hok:az k with
 | false =>
  have HF:=af (show QH k ⟨bQ,JF,ca,cb,cc,bg⟩=(Kx.Kernel.zero,0,5) by rw [HK.o,hok];rfl);clear hok;have r0:=X2.o.c4;have jh:=X2.o.f4;go_wp2_with fail;obtain ⟨F,hF⟩:=XP (sets w3 w1.heap.size 0 [A0 none 0 0,A0 none 0 0,A0 none 0 0,A0 none 0 0]);rw [afA w3,hF];have BF:Below w.heap.size w F:=hF ▸ dP (by omega) _ 0 Bw.o;have XF:BX F w1.heap.size 28 [A0 none 0 0,A0 none 0 0,A0 none 0 0,A0 none 0 0]:=hF ▸ X2.o.sets _ rfl;have KF:KO F w.heap.size (A0 none 0 0) (A0 none 0 0) (A0 none 0 0) (A0 none 0 0) Kx.Kernel.zero:=KO.zero _ _;obtain ⟨e0,e1,e2,e3⟩:=XF.c4
  refine af7 (by simp [results,results16,go_sem,e0,e1,e2,e3]<;>rfl) ?_;rw [HF.o];exact ⟨_,_,_,_,rfl,KF,BF⟩
 | true =>
  go_wp2_with fail;refine (BR _ _).mono ?_;rintro en w4 ⟨rfl,rfl⟩
  cases hin:Kx.bK JF 0 2 with
  | false =>
   have HF:=af (show QH k ⟨bQ,JF,ca,cb,cc,bg⟩=(Kx.Kernel.zero,0,5) by rw [HK.o,hok,hin];rfl);clear hok hin;have r0:=X2.o.c4;have jh:=X2.o.f4;go_wp2_with fail;obtain ⟨F,hF⟩:=XP (sets w3 w1.heap.size 0 [A0 none 0 0,A0 none 0 0,A0 none 0 0,A0 none 0 0]);rw [afA w3,hF];have BF:Below w.heap.size w F:=hF ▸ dP (by omega) _ 0 Bw.o;have XF:BX F w1.heap.size 28 [A0 none 0 0,A0 none 0 0,A0 none 0 0,A0 none 0 0]:=hF ▸ X2.o.sets _ rfl;have KF:KO F w.heap.size (A0 none 0 0) (A0 none 0 0) (A0 none 0 0) (A0 none 0 0) Kx.Kernel.zero:=KO.zero _ _;obtain ⟨e0,e1,e2,e3⟩:=XF.c4
   refine af7 (by simp [results,results16,go_sem,e0,e1,e2,e3]<;>rfl) ?_;rw [HF.o];exact ⟨_,_,_,_,rfl,KF,BF⟩
  | true =>
   obtain ⟨he0,he2⟩:=Kx.ay.1 hin;obtain ⟨e,rfl⟩:=A6 he0;obtain ⟨r,hr⟩:=XP (cO k ⟨bQ,(e:Int),ca,cb,cc,bg⟩);have HF:=af (show QH k ⟨bQ,(e:Int),ca,cb,cc,bg⟩=r by rw [HK.o,hok,hin];exact hr);have HC:=af (ado k ⟨bQ,(e:Int),ca,cb,cc,bg⟩ e _ _ _ _ w3 (show RK w3 _ _ _ _ k from ⟨HR.o.m.below Bw.o,RS.below HR.o.i Bw.o,HR.o.e.below Bw.o,RS.below HR.o.c Bw.o⟩) hok HS.o rfl (by omega) Jr.o Vd.o);rw [hr] at HC;unfold dW at HC;clear hok hin he0 he2 hr HK;go_wp2_with fail;refine HC.o.mono ?_;rintro en w5 ⟨um,ui,ue,uc,rfl,hko,hb⟩;clear HC;have tZ:=af hko;have Hb5:=af hb;replace X0:=af (X0.o.below hb);replace X1:=af (X1.o.below hb);replace X2:=af (X2.o.below hb);replace Bw:=af (Bw.o.trans (hb.mono Bw.o.size));clear p0 c0
   obtain ⟨⟨a0,n0,m0,rfl⟩,⟨a1,n1,m1,rfl⟩,⟨a2,n2,m2,rfl⟩,⟨a3,n3,m3,rfl⟩⟩:=hko.sl;clear hko hb;obtain ⟨w6,hw6⟩:∃ V,w5.alloc (.cells #[A0 a0 n0 m0,A0 a1 n1 m1,A0 a2 n2 m2,A0 a3 n3 m3] 28)=V:=⟨_,rfl⟩;have B6:Below w5.heap.size w5 w6:=hw6 ▸ dm;have X6:=af (show BX w6 w5.heap.size 28 [A0 a0 n0 m0,A0 a1 n1 m1,A0 a2 n2 m2,A0 a3 n3 m3] from hw6 ▸ BX.new w5 _ _);replace X0:=af (X0.o.below B6);replace X1:=af (X1.o.below B6);replace X2:=af (X2.o.below B6);replace Bw:=af (Bw.o.trans (B6.mono Bw.o.size));have HO:=af (ad2 r.1 _ _ _ _ w6 (tZ.o.rk.below B6));have Hz6:=af (show w3.heap.size<=w6.heap.size from A1 Hb5.o.size B6.size);have u0:=X6.o.c4;clear B6;go_wp2_with fail
   try rw [hw6]
   clear hw6;refine HO.o.mono ?_;rintro en w7 ⟨um,ui,ue,uc,rfl,hko,hb⟩;obtain ⟨⟨b0,q0,z0,rfl⟩,⟨b1,q1,z1,rfl⟩,⟨b2,q2,z2,rfl⟩,⟨b3,q3,z3,rfl⟩⟩:=hko.sl;have HKO:=af hko;replace X2:=af (X2.o.below hb);replace Bw:=af (Bw.o.trans (hb.mono Bw.o.size));clear hko hb u0 HO;have r0:=X2.o.c4;have jh:=X2.o.f4;go_wp2_with fail;obtain ⟨F,hF⟩:=XP (sets w7 w1.heap.size 0 [A0 b0 q0 z0,A0 b1 q1 z1,A0 b2 q2 z2,A0 b3 q3 z3]);rw [afA w7,hF];have BF:Below w.heap.size w F:=hF ▸ dP (by omega) _ 0 Bw.o;have XF:BX F w1.heap.size 28 [A0 b0 q0 z0,A0 b1 q1 z1,A0 b2 q2 z2,A0 b3 q3 z3]:=hF ▸ X2.o.sets _ rfl
   have KF:KO F w.heap.size (A0 b0 q0 z0) (A0 b1 q1 z1) (A0 b2 q2 z2) (A0 b3 q3 z3) r.1:=hF ▸ (HKO.o.up (Up.sets (by have:=Hz3.o;have:=Hz6.o;omega) _ 0 w7)).mono (by have:=Hz3.o;have:=Hz6.o;omega);obtain ⟨e0,e1,e2,e3⟩:=XF.c4;refine af7 (by simp [results,results16,go_sem,e0,e1,e2,e3]<;>rfl) ?_;rw [HF.o];exact ⟨_,_,_,_,rfl,KF,BF⟩
theorem adQ {k:Kx.Kernel} {c:Kx.Call} (h:(QH k c).2.2≠5):az k=true/\Kx.bK c.env 0 2=true/\QH k c=cO k c/\az (QH k c).1=true:=by
 have hc:(!az k||!Kx.bK c.env 0 2)=false:=by
  cases hb:(!az k||!Kx.bK c.env 0 2) with
  | false=>rfl
  | true=>exact absurd (by unfold QH;rw [if_pos hb]) h
 have hk:az k=true/\Kx.bK c.env 0 2=true:=by simpa using hc
 have e:QH k c=cO k c:=by unfold QH;rw [hk.1,hk.2];rfl
 exact ⟨hk.1,hk.2,e,by rw [e];exact nN.2 ((nN.1 hk.1).cO c hk.2)⟩
end Go.Proofs.YtmmjmckajcfffaaGreatDoor
