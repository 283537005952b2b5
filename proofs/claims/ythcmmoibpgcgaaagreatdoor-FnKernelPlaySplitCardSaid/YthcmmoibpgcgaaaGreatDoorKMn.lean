/- KM, KD23, KD25, KN, joined. -/
import Derived.Test.YthcmmoibpgcgaaaGreatDoorKDf
import Derived.Test.YthcmmoibpgcgaaaGreatDoorKJ20
set_option maxHeartbeats 2000000
set_option maxRecDepth 100000
set_option linter.all false
open Nat renaming zero_le->A1,le_refl->A2,add_zero->A3
open Go.Value renaming slice->A0
open Go.Proofs.Tryz
namespace Go.Proofs.YthcmmoibpgcgaaaGreatDoor
open Go.RowKit Kx
theorem ace (l:List Kx.Str) (v u:Value) (w:World) (h1:RS df 1 w v l) (h2:RS df 1 w u l):Calls prog 169 #[v,u] w (aez w):=by
 have hl:=h1.1;obtain ⟨a,cap,rfl,_,_⟩:=RS.val h1;obtain ⟨a',cap',rfl,_,_⟩:=RS.val h2;have H1:=af h1;have H2:=af h2;clear h1 h2;go_enter func169,ntmps169;go_wp2_with fail;go_loopw [5] (fun i wr=>∃ k:Nat,i=I_ k/\k<=l.length/\TI (Below w.heap.size w wr)) (fun i _=>l.length - (intOf i).toNat)
 case atStart=>exact ⟨0,rfl,A1 _,Below.refl _ _⟩
 case round =>
  obtain ⟨k,rfl,hk,hb⟩:=hrel
  by_cases hlt:k<l.length
  ·have kQ:(k:Int)<(l.length:Int):=by omega
   obtain ⟨b,off,cap1,e,_,hc⟩:=(RS.below H1.o hb.o).at (k:=k) hlt;obtain ⟨rfl,_,rfl⟩:=Za e;clear e;obtain ⟨b',off',cap1,e,_,hc'⟩:=(RS.below H2.o hb.o).at (k:=k) hlt;obtain ⟨rfl,_,rfl⟩:=Za e;clear e;generalize l[k]=x at hc hc';have g0:=hc 0 _ rfl;have q0:=hc' 0 _ rfl;rw [Nat.mul_one,A3] at g0 q0;clear hc hc';go_wp2_with fail;go_quiet (fail);go_wp2_with fail;go_roundw
   case rel=>exact ⟨k+1,by go_num,by omega,hb.o.trans ((below_drewN wr _).mono hb.o.size)⟩
   case measure=>simp [intOf];omega
  obtain rfl:k=l.length:=by omega
  go_wp2_with fail;go_ret;exact ⟨rfl,hb.o⟩
theorem acg (l:List aG) (v u:Value) (w:World) (h1:RS bH 3 w v l) (h2:RS bH 3 w u l):Calls prog 89 #[v,u] w (aez w):=by
 have hl:=h1.1;obtain ⟨a,cap,rfl,_,_⟩:=RS.val h1;obtain ⟨a',cap',rfl,_,_⟩:=RS.val h2;have H1:=af h1;have H2:=af h2;clear h1 h2;go_enter func89,ntmps89;go_wp2_with fail;go_loopw [5] (fun i wr=>∃ k:Nat,i=I_ k/\k<=l.length/\TI (Below w.heap.size w wr)) (fun i _=>l.length - (intOf i).toNat)
 case atStart=>exact ⟨0,rfl,A1 _,Below.refl _ _⟩
 case round =>
  obtain ⟨k,rfl,hk,hb⟩:=hrel
  by_cases hlt:k<l.length
  ·have kQ:(k:Int)<(l.length:Int):=by omega
   obtain ⟨b,off,cap1,e,_,hc⟩:=(RS.below H1.o hb.o).at (k:=k) hlt;obtain ⟨rfl,_,rfl⟩:=Za e;clear e;obtain ⟨b',off',cap1,e,_,hc'⟩:=(RS.below H2.o hb.o).at (k:=k) hlt;obtain ⟨rfl,_,rfl⟩:=Za e;clear e;generalize l[k]=x at hc hc';have g0:=hc 0 _ rfl;have q0:=hc' 0 _ rfl;have g1:=hc 1 _ rfl;have q1:=hc' 1 _ rfl;have g2:=hc 2 _ rfl;have q2:=hc' 2 _ rfl;rw [A3] at g0 q0;clear hc hc';go_wp2_with fail;go_quiet (fail);go_wp2_with fail;go_roundw
   case rel=>exact ⟨k+1,by go_num,by omega,hb.o.trans ((below_drewN wr _).mono hb.o.size)⟩
   case measure=>simp [intOf];omega
  obtain rfl:k=l.length:=by omega
  go_wp2_with fail;go_ret;exact ⟨rfl,hb.o⟩
theorem aci (l:List Kx.Cached) (v u:Value) (w:World) (h1:RS b_ 4 w v l) (h2:RS b_ 4 w u l):Calls prog 91 #[v,u] w (aez w):=by
 have hl:=h1.1;obtain ⟨a,cap,rfl,_,_⟩:=RS.val h1;obtain ⟨a',cap',rfl,_,_⟩:=RS.val h2;have H1:=af h1;have H2:=af h2;clear h1 h2;go_enter func91,ntmps91;go_wp2_with fail;go_loopw [5] (fun i wr=>∃ k:Nat,i=I_ k/\k<=l.length/\TI (Below w.heap.size w wr)) (fun i _=>l.length - (intOf i).toNat)
 case atStart=>exact ⟨0,rfl,A1 _,Below.refl _ _⟩
 case round =>
  obtain ⟨k,rfl,hk,hb⟩:=hrel
  by_cases hlt:k<l.length
  ·have kQ:(k:Int)<(l.length:Int):=by omega
   obtain ⟨b,off,cap1,e,_,hc⟩:=(RS.below H1.o hb.o).at (k:=k) hlt;obtain ⟨rfl,_,rfl⟩:=Za e;clear e;obtain ⟨b',off',cap1,e,_,hc'⟩:=(RS.below H2.o hb.o).at (k:=k) hlt;obtain ⟨rfl,_,rfl⟩:=Za e;clear e;generalize l[k]=x at hc hc';have g0:=hc 0 _ rfl;have q0:=hc' 0 _ rfl;have g1:=hc 1 _ rfl;have q1:=hc' 1 _ rfl;have g2:=hc 2 _ rfl;have q2:=hc' 2 _ rfl;have g3:=hc 3 _ rfl;have q3:=hc' 3 _ rfl;rw [A3] at g0 q0;clear hc hc';go_wp2_with fail;go_quiet (fail);go_wp2_with fail;go_roundw
   case rel=>exact ⟨k+1,by go_num,by omega,hb.o.trans ((below_drewN wr _).mono hb.o.size)⟩
   case measure=>simp [intOf];omega
  obtain rfl:k=l.length:=by omega
  go_wp2_with fail;go_ret;exact ⟨rfl,hb.o⟩
theorem ab4 (l:List (List Int)) (v u:Value) (w:World) (h1:RM w v l) (h2:RM w u l):Calls prog 88 #[v,u] w (aez w):=by
 obtain ⟨_,a,cap,rfl,_,_⟩:=h1.len;obtain ⟨_,a',cap',rfl,_,_⟩:=h2.len;have hl:=h1.len.1;have H1:=af h1;have H2:=af h2;clear h1 h2;go_enter func88,ntmps88;go_wp2_with fail;go_loopw [5] (fun i wr=>∃ k:Nat,i=I_ k/\k<=l.length/\TI (Below w.heap.size w wr)) (fun i _=>l.length - (intOf i).toNat)
 case atStart=>exact ⟨0,rfl,A1 _,Below.refl _ _⟩
 case round =>
  obtain ⟨k,rfl,hk,hb⟩:=hrel
  by_cases hlt:k<l.length
  ·have kQ:(k:Int)<(l.length:Int):=by omega
   obtain ⟨b,off,cap1,u1,e,hbl,hx,m_⟩:=H1.o.at hlt;obtain ⟨rfl,_,rfl⟩:=Za e;clear e;obtain ⟨b',off',cap1,u2,e,aag,hx',acj⟩:=H2.o.at hlt;obtain ⟨rfl,_,rfl⟩:=Za e;clear e;rw [show Kx.row l k=l[k] from by simp [Kx.row,hlt]] at m_ acj;obtain ⟨ra,rc,rfl⟩:=m_.val;obtain ⟨sa,sc,rfl⟩:=acj.val;obtain ⟨d,hd⟩:=XP wr.drew;have Hd:=af hd;have Bd:=af (show Below w.heap.size w d from hd ▸ Below.bz hb.o);have HC:=af (fun W (hb:Below w.heap.size w W)=>QB l[k] l[k] _ _ W (m_.below hb) (acj.below hb))
   have K2:=af (show ∀ W,Below w.heap.size w W->((fun wz:World=>wz.cell? ⟨b,off+k,none⟩=some (A0 ra l[k].length rc)/\wz.cell? ⟨b',off'+k,none⟩=some (A0 sa l[k].length sc))) W from fun W hb=>⟨(hb.cell (p:=⟨b,off+k,none⟩) hbl).trans hx,(hb.cell (p:=⟨b',off'+k,none⟩) aag).trans hx'⟩)
   clear hx hx' m_ acj hbl aag hd;go_wp2_with fail;refine afY (xs:=[]) K2 (by rw [Hd.o];exact Bd.o) fun hHeld=>?_
   rw [Hd.o];rw [Hd.o] at hHeld;refine tL 0 ?_;refine tL 1 ?_;refine tL 2 ?_;refine tL 3 ?_;refine tL 4 ?_;refine tL 5 ?_;refine tL 6 ?_;refine tL 7 ?_;refine aho 8 fun K hK=>?_;go_simp;go_at_call 25;refine (HC.o d Bd.o).mono ?_;rintro en v1 ⟨rfl,hb1⟩;have Hb1:=af (Bd.o.trans (hb1.mono Bd.o.size));clear hb1;refine afX hK (K2.o _ Hb1.o) fun hHeld=>?_
   clear hK K;refine tL 9 ?_;refine gY (by kernel_rfl) ?_ _
   try rw [show (decide (l[k]=l[k]))=true from by simp]
   go_wp2_with fail;go_roundw
   case rel=>exact ⟨k+1,by go_num,by omega,Hb1.o⟩
   case measure=>simp [intOf];omega
  obtain rfl:k=l.length:=by omega
  go_wp2_with fail;go_ret;exact ⟨rfl,hb.o⟩
theorem acG (l:List Kx.Env) (v u:Value) (w:World) (h1:uo w v l) (h2:uo w u l):Calls prog 90 #[v,u] w (aez w):=by
 obtain ⟨_,a,cap,rfl,_,_⟩:=h1.len;obtain ⟨_,a',cap',rfl,_,_⟩:=h2.len;have hl:=h1.len.1;have H1:=af h1;have H2:=af h2;clear h1 h2;go_enter func90,ntmps90;go_wp2_with fail;go_loopw [5] (fun i wr=>∃ k:Nat,i=I_ k/\k<=l.length/\TI (Below w.heap.size w wr)) (fun i _=>l.length - (intOf i).toNat)
 case atStart=>exact ⟨0,rfl,A1 _,Below.refl _ _⟩
 case round =>
  obtain ⟨k,rfl,hk,hb⟩:=hrel
  by_cases hlt:k<l.length
  ·have kQ:(k:Int)<(l.length:Int):=by omega
   obtain ⟨b,off,cap1,u1,e,hbl,hx,hy,m_⟩:=H1.o.at hlt;obtain ⟨rfl,_,rfl⟩:=Za e;clear e;obtain ⟨b',off',cap1,u2,e,aag,hx',hy',acj⟩:=H2.o.at hlt;obtain ⟨rfl,_,rfl⟩:=Za e;clear e;obtain ⟨ra,rc,rfl,_,_⟩:=RS.val m_;obtain ⟨sa,sc,rfl,_,_⟩:=RS.val acj;obtain ⟨d,hd⟩:=XP wr.drew;have Hd:=af hd;have Bd:=af (show Below w.heap.size w d from hd ▸ Below.bz hb.o);have HC:=af (fun W (hb:Below w.heap.size w W)=>ace _ _ _ W (RS.below m_ hb) (RS.below acj hb))
   have K4:=af (show ∀ W,Below w.heap.size w W->((fun wz:World=>wz.cell? ⟨b,off+k*2,none⟩=some (A0 ra (au l k).aB.length rc)/\wz.cell? ⟨b,off+k*2+1,none⟩=some (I_ (au l k).root)/\wz.cell? ⟨b',off'+k*2,none⟩=some (A0 sa (au l k).aB.length sc)/\wz.cell? ⟨b',off'+k*2+1,none⟩=some (I_ (au l k).root))) W from fun W hb=>⟨(hb.cell (p:=⟨b,off+k*2,none⟩) hbl).trans hx,(hb.cell (p:=⟨b,off+k*2+1,none⟩) hbl).trans hy,(hb.cell (p:=⟨b',off'+k*2,none⟩) aag).trans hx',(hb.cell (p:=⟨b',off'+k*2+1,none⟩) aag).trans hy'⟩)
   clear hx hx' hy hy' m_ acj hbl aag hd;go_wp2_with fail;refine afY (xs:=[]) K4 (by rw [Hd.o];exact Bd.o) fun hHeld=>?_
   rw [Hd.o];rw [Hd.o] at hHeld;refine tL 0 ?_;refine tL 1 ?_;refine tL 2 ?_;refine tL 3 ?_;refine tL 4 ?_;refine tL 5 ?_;refine tL 6 ?_;refine tL 7 ?_;refine tL 8 ?_;refine tL 9 ?_;refine tL 10 ?_;refine tL 11 ?_;refine tL 12 ?_;refine tL 13 ?_;refine tL 14 ?_;refine tL 15 ?_;refine tL 16 ?_;refine tL 17 ?_;refine tL 18 ?_;refine tL 19 ?_;refine tL 20 ?_;refine tL 21 ?_;refine aho 22 fun K hK=>?_;go_simp;go_at_call 169;refine (HC.o d Bd.o).mono ?_;rintro en v1 ⟨rfl,hb1⟩;have Hb1:=af (Bd.o.trans (hb1.mono Bd.o.size));clear hb1;refine afX hK (K4.o _ Hb1.o) fun hHeld=>?_
   clear hK K;refine tL 23 ?_;refine tL 24 ?_;refine gY (by kernel_rfl) ?_ _;go_wp2_with fail;go_roundw
   case rel=>exact ⟨k+1,by go_num,by omega,Hb1.o⟩
   case measure=>simp [intOf];omega
  obtain rfl:k=l.length:=by omega
  go_wp2_with fail;go_ret;exact ⟨rfl,hb.o⟩
theorem adE (k:Kx.Kernel) (vm vi ve vc um ui ue uc:Value) (w:World) (h:RK w vm vi ve vc k) (h':RK w um ui ue uc k):Calls prog 26 #[.agg #[vm,vi,ve,vc],.agg #[um,ui,ue,uc]] w (aez w):=by
 obtain ⟨w0,hw0⟩:=XP (w.alloc (.cells #[vm,vi,ve,vc] 28));obtain ⟨w1,hw1⟩:=XP (w0.alloc (.cells #[um,ui,ue,uc] 28));have B0:Below w.heap.size w w0:=hw0 ▸ dm;have B1:Below w0.heap.size w0 w1:=hw1 ▸ dm;have Bw:=af (B0.trans (B1.mono B0.size));have X0:=af (show BX w1 w.heap.size 28 [vm,vi,ve,vc] from (hw0 ▸ BX.new w _ _:BX w0 _ _ _).below B1);have X1:=af (show BX w1 w0.heap.size 28 [um,ui,ue,uc] from hw1 ▸ BX.new w0 _ _);have H:=af h;have H':=af h';clear h h' B0 B1;go_enter func26,ntmps26;have p0:=X0.o.c4;have q0:=X1.o.c4;go_wp2_with fail;clear hw0 hw1;refine (ab4 _ _ _ _ (H.o.m.below Bw.o) (H'.o.m.below Bw.o)).mono ?_;rintro en w2 ⟨rfl,hb⟩;replace X0:=af (X0.o.below hb);replace X1:=af (X1.o.below hb);replace Bw:=af (Bw.o.trans (hb.mono Bw.o.size));clear p0 q0 hb
 have p0:=X0.o.c4;have q0:=X1.o.c4;go_wp2_with fail;refine (acg _ _ _ _ (RS.below H.o.i Bw.o) (RS.below H'.o.i Bw.o)).mono ?_;rintro en w3 ⟨rfl,hb⟩;replace X0:=af (X0.o.below hb);replace X1:=af (X1.o.below hb);replace Bw:=af (Bw.o.trans (hb.mono Bw.o.size));clear p0 q0 hb;have p0:=X0.o.c4;have q0:=X1.o.c4;go_wp2_with fail;refine (acG _ _ _ _ (H.o.e.below Bw.o) (H'.o.e.below Bw.o)).mono ?_;rintro en w4 ⟨rfl,hb⟩;replace X0:=af (X0.o.below hb);replace X1:=af (X1.o.below hb);replace Bw:=af (Bw.o.trans (hb.mono Bw.o.size));clear p0 q0 hb;have p0:=X0.o.c4;have q0:=X1.o.c4;go_wp2_with fail;refine (aci _ _ _ _ (RS.below H.o.c Bw.o) (RS.below H'.o.c Bw.o)).mono ?_;rintro en w5 ⟨rfl,hb⟩
 replace X0:=af (X0.o.below hb);replace X1:=af (X1.o.below hb);replace Bw:=af (Bw.o.trans (hb.mono Bw.o.size));clear p0 q0 hb;have p0:=X0.o.c4;have q0:=X1.o.c4;go_wp2_with fail;go_ret;exact ⟨rfl,Bw.o⟩
section
variable {P:Program} {ops:Array Oper} {Q:Exit->Act->World->Prop} {md:Region.Mode} {S S':World->Prop} {xs:List Nat}
end
structure LD (w W:World) (rb q g2 g5:Nat) (k:Kx.Kernel) (v0 v1 v2 v3:Value):Prop where
 b:Below w.heap.size w W
 r:RD W rb q
 x2:BX W g2 28 [A0 none 0 0,A0 none 0 0,A0 none 0 0,A0 none 0 0]
 x5:BX W g5 28 [v0,v1,v2,v3]
 f:∃ base hi,rb<base/\hi<=g5/\hi<=W.heap.size/\MP W base hi v0 v1 v2 v3 k
 s:iQ k
 h:w.heap.size<=g2/\g2<rb/\rb<g5
section
variable {w W V:World} {rb q q' g2 g5:Nat} {k:Kx.Kernel} {v0 v1 v2 v3:Value}
theorem LD.pick (h:LD w W rb q g2 g5 k v0 v1 v2 v3) (hr:RD V rb q') (hg:W.grownBy V (some rb)):LD w V rb q' g2 g5 k v0 v1 v2 v3:=by
 obtain ⟨base,hi,h2,h3,h4,hk⟩:=h.f;have hh:=h.h;exact ⟨h.b.grown hg h.b.size (fun k hk=>by cases hk;omega),hr,(hg.block g2 h.x2.lt (by simp;omega)).trans h.x2,(hg.block g5 h.x5.lt (by simp;omega)).trans h.x5,⟨base,hi,h2,h3,Nat.le_trans h4 hg.size,hk.to hg.size (fun j a b=>hg.block j (by omega) (by simp;omega))⟩,h.s,h.h⟩
theorem LD.below (h:LD w W rb q g2 g5 k v0 v1 v2 v3) (hb:Below W.heap.size W V):LD w V rb q g2 g5 k v0 v1 v2 v3:=
 h.pick (h.r.keep hb) (grown_below hb ⟨hb.os,hb.tape,hb.output⟩)
theorem LD.rk (h:LD w W rb q g2 g5 k v0 v1 v2 v3):RK W v0 v1 v2 v3 k:=by
 obtain ⟨base,hi,h2,h3,h4,hk⟩:=h.f;exact hk W aW (fun _ _ _=>rfl)
theorem LD.fin (h:LD w W rb q g2 g5 k v0 v1 v2 v3):Below w.heap.size w (sets W g2 0 [v0,v1,v2,v3])/\BX (sets W g2 0 [v0,v1,v2,v3]) g2 28 [v0,v1,v2,v3]/\RK (sets W g2 0 [v0,v1,v2,v3]) v0 v1 v2 v3 k/\BX (sets W g2 0 [v0,v1,v2,v3]) g5 28 [v0,v1,v2,v3]:=by
 obtain ⟨base,hi,h2,h3,h4,hk⟩:=h.f;have hh:=h.h;exact ⟨dP hh.1 _ 0 h.b,h.x2.sets _ rfl,hk _ (by rw [jB];exact A2 _) (fun j a _=>mG _ _ (by omega) _ _),BX.iq (by omega) _ 0 h.x5⟩
end
theorem LD.ag {w W:World} {rb q g2 g5:Nat} {k:Kx.Kernel} {v0 v1 v2 v3:Value} (h:LD w W rb q g2 g5 k v0 v1 v2 v3):∀ V,W.grownBy V (some rb)->bV V v1 k.ag:=fun V hg=>by
 obtain ⟨base,hi,h2,h3,h4,hk⟩:=h.f;exact (hk V hg.size (fun j a b=>hg.block j (by omega) (by simp;omega))).i
end Go.Proofs.YthcmmoibpgcgaaaGreatDoor
