/- Contracts: the impl's side: allowed, good. (printed by ki8.py) -/
import Derived.Test.YtliebkfligagnaaGreatDoorKIb
set_option maxHeartbeats 4000000
set_option linter.all false
namespace Go.Proofs.YtliebkfligagnaaGreatDoor
open Go.RowKit
theorem Ih.new (w:World) (v0:Value) (e:TypeId):(w.alloc (.cells #[v0] e)).cell? ⟨w.heap.size,0,none⟩=some v0∧w.heap.size<(w.alloc (.cells #[v0] e)).heap.size:=by
 have h:(w.alloc (.cells #[v0] e)).heap[w.heap.size]?=some (.cells #[v0] e (0,0)):=heap_alloc_new w _;exact ⟨cell_of_row _ _ 0 _ _ _ h,by simp⟩
theorem Below.UJ {w w':World} (h:Below w.drew.drew.heap.size w.drew.drew w'):Below w.heap.size w w':=⟨h.os,h.tape,h.output,h.size,h.block⟩
theorem FC (l:List Kx.aG) (f:Nat) (r:List Kx.Str) (b1 b2 kb:Nat) (u ui:Value) (w:World) (hI:bV w ui l) (hf:f<l.length) (hr:dK w u r)
  (h1:w.cell? ⟨b1,0,none⟩=some u) (h2:w.cell? ⟨b2,0,none⟩=some (.pointer (some ⟨kb,0,none⟩))) (h3:w.cell? ⟨kb,1,none⟩=some ui) :
  Calls Tryz.prog 155 #[.int .i64 f,.pointer (some ⟨b1,0,none⟩),.pointer (some ⟨b2,0,none⟩)] w fun en w'=>en=.returned (.bool (!Kx.may r (Kx.inf l f).guard))∧Below w.heap.size w w':=by
 obtain ⟨bi,oi,ci,rfl,_,_,g1,_⟩:=bV.at hI hf;have hin:=af (show b1<w.heap.size∧b2<w.heap.size∧kb<w.heap.size∧bi<w.heap.size from ⟨World.block_lt_of_cell? w _ h1,World.block_lt_of_cell? w _ h2,World.block_lt_of_cell? w _ h3,World.block_lt_of_cell? w _ g1⟩);have wJ:(f:Int)<(l.length:Int):=by omega
 have Hr:=af hr;clear hr hI;generalize (Kx.inf l f).guard=g at g1;have S1:w.cell? ⟨b1,0,none⟩=some u∧w.cell? ⟨b2,0,none⟩=some (.pointer (some ⟨kb,0,none⟩))∧w.cell? ⟨kb,1,none⟩=some (.slice (some ⟨bi,oi,none⟩) l.length ci)∧w.cell? ⟨bi,oi+f*3+1,none⟩=some (.string g):=⟨h1,h2,h3,g1⟩;go_enter Tryz.func155,Tryz.ntmps155;go_wp2_with fail;refine wp_region_held_drew (S:=(fun wz=>wz.cell? ⟨b1,0,none⟩=some u∧wz.cell? ⟨b2,0,none⟩=some (.pointer (some ⟨kb,0,none⟩))∧wz.cell? ⟨kb,1,none⟩=some (.slice (some ⟨bi,oi,none⟩) l.length ci)∧wz.cell? ⟨bi,oi+f*3+1,none⟩=some (.string g))) (by kernel_rfl) (by first | assumption | (exact ⟨(hb3.cell (p:=⟨b1,0,none⟩) hin.out.1).trans h1,(hb3.cell (p:=⟨b2,0,none⟩) hin.out.2.1).trans h2,(hb3.cell (p:=⟨kb,1,none⟩) hin.out.2.2.1).trans h3,(hb3.cell (p:=⟨bi,oi+f*3+1,none⟩) hin.out.2.2.2).trans g1⟩) | go_keep) (fun hHeld=>?_)
 refine tH 0 ?_;refine tH 1 ?_;refine tH 2 ?_;refine tH 3 ?_;refine tH 4 ?_;refine tH 5 ?_;refine tH 6 ?_;refine tH 7 ?_;refine tH 8 ?_;refine rH 9 (fun K hK=>?_)
 (rw [if_pos (by rfl)];go_simp;go_at_call 156;refine (AP r g u _ (show dK w.drew _ _ from Hr.out)).mono ?_;rintro e w2 ⟨rfl,hb2⟩;have hb3:=Below.gG hb2;go_wp2_with fail)
 refine hK.out _ _ ?_ (fun hHeld=>?_)
 ·first | assumption | (exact ⟨(hb3.cell (p:=⟨b1,0,none⟩) hin.out.1).trans h1,(hb3.cell (p:=⟨b2,0,none⟩) hin.out.2.1).trans h2,(hb3.cell (p:=⟨kb,1,none⟩) hin.out.2.2.1).trans h3,(hb3.cell (p:=⟨bi,oi+f*3+1,none⟩) hin.out.2.2.2).trans g1⟩) | go_keep
 clear hK K;refine nH ?_;refine tH 10 ?_;refine tH 11 ?_;refine wpAnyH_done (by kernel_rfl) ?_ _;go_wp2_with fail;go_ret;exact ⟨rfl,hb3⟩
theorem DU (l:List Kx.aG) (fs:List Nat) (r:List Kx.Str):((List.range (fU fs).length).any fun k=>!Kx.may r (Kx.inf l (fs.getD k 0)).guard)=!Kx.allowed l fs r:=by
 unfold Kx.allowed;rw [aQ,Bool.eq_iff_iff,List.any_eq_true,Bool.not_eq_true',List.all_eq_false];constructor
 ·rintro ⟨k,hk,hq⟩;have hk:k<fs.length:=by simpa using hk
  exact ⟨fs[k],List.getElem_mem hk,by simpa [hk] using hq⟩
 rintro ⟨x,hx,hq⟩;obtain ⟨k,hk,rfl⟩:=List.getElem_of_mem hx;exact ⟨k,by simpa using hk,by simpa [hk] using hq⟩
theorem JZ (fs:List Nat) (k:Nat):(fU fs).getD k 0=((fs.getD k 0:Nat):Int):=by
 unfold fU
 by_cases h:k<fs.length <;> simp [List.getD,h]
theorem lH (l:List Kx.aG) (fs:List Nat) (r:List Kx.Str) (kb:Nat) (u v ui:Value) (w:World) (hI:bV w ui l) (hfs:RI w v (fU fs)) (hr:dK w u r) (hlt:∀ f ∈ fs,f<l.length) (h3:w.cell? ⟨kb,1,none⟩=some ui) :
  Calls Tryz.prog 93 #[.pointer (some ⟨kb,0,none⟩),u,v] w fun en w'=>en=.returned (.bool (Kx.allowed l fs r))∧Below w.heap.size w w':=by
 obtain ⟨w1,hw1⟩:∃ w1,w.alloc (.cells #[.pointer (some ⟨kb,0,none⟩)] 124)=w1:=⟨_,rfl⟩;have B1:=af (show Below w.heap.size w w1 from hw1 ▸ dm);obtain ⟨c1,l1⟩:=(show w1.cell? ⟨w.heap.size,0,none⟩=some (.pointer (some ⟨kb,0,none⟩))∧w.heap.size<w1.heap.size from hw1 ▸ Ih.new w _ _);obtain ⟨w2,hw2⟩:∃ w2,w1.alloc (.cells #[u] 62)=w2:=⟨_,rfl⟩;have B2:=af (show Below w1.heap.size w1 w2 from hw2 ▸ dm);obtain ⟨c2,l2⟩:=(show w2.cell? ⟨w1.heap.size,0,none⟩=some u∧w1.heap.size<w2.heap.size from hw2 ▸ Ih.new w1 _ _)
 have FD:=af (B1.out.trans (B2.out.mono B1.out.size));have c1':=(B2.out.cell (p:=⟨w.heap.size,0,none⟩) l1).trans c1;have hkb:=World.block_lt_of_cell? w _ h3;have k3:=(FD.out.cell (p:=⟨kb,1,none⟩) hkb).trans h3;have hkb2:kb<w2.heap.size:=Nat.lt_of_lt_of_le hkb FD.out.size;have Yw:w.heap.size<w2.heap.size:=Nat.lt_of_lt_of_le l1 B2.out.size;have hc:=qF 155 #[.pointer (some ⟨w1.heap.size,0,none⟩),.pointer (some ⟨w.heap.size,0,none⟩)] (fun k=>!Kx.may r (Kx.inf l (fs.getD k 0)).guard) (fU fs) v w2 (hfs.below FD.out)
  ⟨Proofs.enters_of Tryz.func155 (by kernel_rfl) rfl,fun k W hk hb=>by
   have hk':k<fs.length:=by rw [aQ] at hk;exact hk
   have hm:fs.getD k 0<l.length:=hlt _ (by rw [show fs.getD k 0=fs[k] from by simp [hk']];exact List.getElem_mem hk');have hbw:=FD.out.trans (hb.mono FD.out.size);show Calls Tryz.prog 155 #[.int .i64 ((fU fs).getD k 0),_,_] W _;rw [JZ];exact FC l (fs.getD k 0) r w1.heap.size w.heap.size kb u ui W (RS.below hI hbw) hm (RS.below hr hbw) ((hb.cell (p:=⟨w1.heap.size,0,none⟩) l2).trans c2) ((hb.cell (p:=⟨w.heap.size,0,none⟩) Yw).trans c1') ((hb.cell (p:=⟨kb,1,none⟩) hkb2).trans k3)⟩
 rw [DU] at hc;have HC:=af hc;clear hc c1 c2 c1' k3 hkb hkb2 Yw l1 l2 h3 hlt;obtain ⟨a,cap,rfl⟩:=hfs.val;obtain ⟨a2,cap2,rfl,_,_⟩:=RS.val hr;clear hfs hr hI;go_enter Tryz.func93,Tryz.ntmps93;go_wp2_with (go_at_call 154;refine HC.out.mono ?_;rintro en w' ⟨rfl,hb'⟩;have kR:=af hb';clear hb');go_ret;exact ⟨ak (by simp),FD.out.trans (kR.out.mono FD.out.size)⟩
theorem Nh (l:List Kx.aG) (t:Nat) (x kind:Int) (r:List Kx.Str) (b1 b2 b3 b4:Nat) (v u:Value) (w:World) (h:bV w v l) (h12:l.length=12) (hr:dK w u r) (hk:kind=2∨kind=3) (hx:x≤9223372036854775807)
  (c1:w.cell? ⟨b1,0,none⟩=some (.int .i64 t)) (c2:w.cell? ⟨b2,0,none⟩=some v) (c3:w.cell? ⟨b3,0,none⟩=some (.int .i64 kind)) (c4:w.cell? ⟨b4,0,none⟩=some u) :
  Calls Tryz.prog 157 #[.int .i64 x,.pointer (some ⟨b1,0,none⟩),.pointer (some ⟨b2,0,none⟩),.pointer (some ⟨b3,0,none⟩),.pointer (some ⟨b4,0,none⟩)] w fun e w'=>e=.returned (.bool (!Kx.gK l t x kind r))∧Below w.heap.size w w':=by
 have hin:=af (show b1<w.heap.size∧b2<w.heap.size∧b3<w.heap.size∧b4<w.heap.size from ⟨World.block_lt_of_cell? w _ c1,World.block_lt_of_cell? w _ c2,World.block_lt_of_cell? w _ c3,World.block_lt_of_cell? w _ c4⟩)
 cases he:Kx.entry x with
 | none =>
  have HF:=af (show Kx.gK l t x kind r=(x==0) by unfold Kx.gK;rw [he]);have He:=af he;clear he hk h h12 hr;have S1:w.cell? ⟨b1,0,none⟩=some (.int .i64 t)∧w.cell? ⟨b2,0,none⟩=some v∧w.cell? ⟨b3,0,none⟩=some (.int .i64 kind)∧w.cell? ⟨b4,0,none⟩=some u:=⟨c1,c2,c3,c4⟩
  by_cases h0:x=0
  ·subst h0;go_enter Tryz.func157,Tryz.ntmps157;go_wp2_with fail;refine (bZ _ _ (by omega)).mono ?_;rintro e w' ⟨rfl,rfl⟩;rw [G7 He.out];go_wp2_with fail;refine wp_region_held_drew (S:=(fun wz=>wz.cell? ⟨b1,0,none⟩=some (.int .i64 t)∧wz.cell? ⟨b2,0,none⟩=some v∧wz.cell? ⟨b3,0,none⟩=some (.int .i64 kind)∧wz.cell? ⟨b4,0,none⟩=some u)) (by kernel_rfl) (by first | assumption | go_keep) (fun hHeld=>?_)
   refine tH 0 ?_;refine tH 1 ?_;refine tH 2 ?_;refine sH 3 ?_;refine sH 4 ?_;refine sH 5 ?_;refine sH 6 ?_;refine sH 7 ?_;refine sH 8 ?_;refine sH 9 ?_;refine sH 10 ?_;refine sH 11 ?_;refine sH 12 ?_;refine sH 13 ?_;refine sH 14 ?_;refine sH 15 ?_;refine sH 16 ?_;refine sH 17 ?_;refine sH 18 ?_;refine sH 19 ?_;refine sH 20 ?_;refine sH 21 ?_;refine sH 22 ?_;refine sH 23 ?_;refine sH 24 ?_;refine sH 25 ?_;refine sH 26 ?_;refine sH 27 ?_;refine sH 28 ?_;refine sH 29 ?_;refine tH 30 ?_;refine tH 31 ?_;refine wpAnyH_done (by kernel_rfl) ?_ _;go_wp2_with fail;go_ret;exact ⟨ak (by rw [HF.out];rfl),⟨rfl,rfl,rfl,Nat.le_refl _,fun _ _=>rfl⟩⟩
  have hb:(x==0)=false:=by simpa using h0
  have hbn:(x != 0)=true:=by simpa using h0
  rw [hb] at HF;clear h0;go_enter Tryz.func157,Tryz.ntmps157;go_wp2_with fail;refine (bZ _ _ (by omega)).mono ?_;rintro e w' ⟨rfl,rfl⟩;rw [G7 He.out];go_wp2_with fail;refine wp_region_held_drew (S:=(fun wz=>wz.cell? ⟨b1,0,none⟩=some (.int .i64 t)∧wz.cell? ⟨b2,0,none⟩=some v∧wz.cell? ⟨b3,0,none⟩=some (.int .i64 kind)∧wz.cell? ⟨b4,0,none⟩=some u)) (by kernel_rfl) (by first | assumption | go_keep) (fun hHeld=>?_)
  refine tH 0 ?_;refine tH 1 ?_;refine tH 2 ?_;refine tH 3 ?_;refine tH 4 ?_;refine tH 5 ?_;refine sH 6 ?_;refine sH 7 ?_;refine sH 8 ?_;refine tH 9 ?_;refine tH 10 ?_;refine sH 11 ?_;refine sH 12 ?_;refine sH 13 ?_;refine sH 14 ?_;refine sH 15 ?_;refine sH 16 ?_;refine sH 17 ?_;refine sH 18 ?_;refine tH 19 ?_;refine tH 20 ?_;refine sH 21 ?_;refine sH 22 ?_;refine sH 23 ?_;refine sH 24 ?_;refine sH 25 ?_;refine sH 26 ?_;refine sH 27 ?_;refine sH 28 ?_;refine tH 29 ?_;refine tH 30 ?_;refine tH 31 ?_;refine wpAnyH_done (by kernel_rfl) ?_ _;go_wp2_with fail;go_ret;exact ⟨ak (by rw [HF.out];rfl),⟨rfl,rfl,rfl,Nat.le_refl _,fun _ _=>rfl⟩⟩
 | some p =>
  obtain ⟨g,c⟩:=p;have hg:=Kx.dU he;have hx0:x≠0:=fun e=>by subst e;have:Kx.entry 0=none:=rfl;rw [this] at he;cases he
  have hbn:(x != 0)=true:=by simpa using hx0
  have HF:=af (show Kx.gK l t x kind r=(g != t&&(Kx.inf l g).kind==kind - 1&&Kx.may r (Kx.inf l g).guard) by unfold Kx.gK;rw [he]);have He:=af he;clear he;obtain ⟨b,off,cap1,rfl,hbw,h1,h2,h3⟩:=bV.at h (k:=g) (by omega);have Vt:(g:Int)<(l.length:Int):=by omega
  have Hn:=af (show Kx.needs kind=kind - 1 by rcases hk with rfl | rfl <;> rfl)
  have Hr:=af hr;have Q4:=af hbw;clear h hr h12 hx0 hk hbw;generalize Kx.inf l g=y at h1 h2 h3 HF;have S1:w.cell? ⟨b1,0,none⟩=some (.int .i64 t)∧w.cell? ⟨b2,0,none⟩=some (.slice (some ⟨b,off,none⟩) l.length cap1)∧w.cell? ⟨b3,0,none⟩=some (.int .i64 kind)∧w.cell? ⟨b4,0,none⟩=some u∧w.cell? ⟨b,off+g*3,none⟩=some (.int .i64 y.kind)∧w.cell? ⟨b,off+g*3+1,none⟩=some (.string y.guard):=⟨c1,c2,c3,c4,h1,h2⟩
  by_cases ht:g=t
  ·subst ht;have HF2:=af (HF.out.trans (show _=false by simp));have hgg:((g:Int)==(g:Int))=true:=by simp
   clear HF;go_enter Tryz.func157,Tryz.ntmps157;go_wp2_with fail;refine (bZ _ _ (by omega)).mono ?_;rintro e w' ⟨rfl,rfl⟩;rw [C_ He.out];go_wp2_with fail;refine wp_region_held_drew (S:=(fun wz=>wz.cell? ⟨b1,0,none⟩=some (.int .i64 g)∧wz.cell? ⟨b2,0,none⟩=some (.slice (some ⟨b,off,none⟩) l.length cap1)∧wz.cell? ⟨b3,0,none⟩=some (.int .i64 kind)∧wz.cell? ⟨b4,0,none⟩=some u∧wz.cell? ⟨b,off+g*3,none⟩=some (.int .i64 y.kind)∧wz.cell? ⟨b,off+g*3+1,none⟩=some (.string y.guard))) (by kernel_rfl) (by first | assumption | go_keep) (fun hHeld=>?_)
   refine tH 0 ?_;refine tH 1 ?_;refine tH 2 ?_;refine tH 3 ?_;refine tH 4 ?_;refine tH 5 ?_;refine tH 6 ?_;refine tH 7 ?_;refine tH 8 ?_;refine tH 9 ?_;refine tH 10 ?_;refine sH 11 ?_;refine sH 12 ?_;refine sH 13 ?_;refine sH 14 ?_;refine sH 15 ?_;refine sH 16 ?_;refine sH 17 ?_;refine sH 18 ?_;refine tH 19 ?_;refine tH 20 ?_;refine sH 21 ?_;refine sH 22 ?_;refine sH 23 ?_;refine sH 24 ?_;refine sH 25 ?_;refine sH 26 ?_;refine sH 27 ?_;refine sH 28 ?_;refine tH 29 ?_;refine tH 30 ?_;refine tH 31 ?_;refine wpAnyH_done (by kernel_rfl) ?_ _;go_wp2_with fail;go_ret;exact ⟨ak (by rw [HF2.out];rfl),⟨rfl,rfl,rfl,Nat.le_refl _,fun _ _=>rfl⟩⟩
  have htb:(g != t)=true:=by simpa using ht
  have UK:((g:Int)==(t:Int))=false:=by rw [beq_eq_false_iff_ne];omega
  rw [htb] at HF;clear ht htb
  by_cases hky:y.kind=kind - 1
  ·have hkb:(y.kind==kind - 1)=true:=by simpa using hky
   have hkb2:(y.kind != kind - 1)=false:=by simpa using hky
   rw [hkb] at HF;clear hky hkb;go_enter Tryz.func157,Tryz.ntmps157;go_wp2_with fail;refine (bZ _ _ (by omega)).mono ?_;rintro e w' ⟨rfl,rfl⟩;rw [C_ He.out];go_wp2_with fail;refine wp_region_held_drew (S:=(fun wz=>wz.cell? ⟨b1,0,none⟩=some (.int .i64 t)∧wz.cell? ⟨b2,0,none⟩=some (.slice (some ⟨b,off,none⟩) l.length cap1)∧wz.cell? ⟨b3,0,none⟩=some (.int .i64 kind)∧wz.cell? ⟨b4,0,none⟩=some u∧wz.cell? ⟨b,off+g*3,none⟩=some (.int .i64 y.kind)∧wz.cell? ⟨b,off+g*3+1,none⟩=some (.string y.guard))) (by kernel_rfl) (by first | assumption | (exact ⟨(hb3.cell (p:=⟨b1,0,none⟩) hin.out.1).trans c1,(hb3.cell (p:=⟨b2,0,none⟩) hin.out.2.1).trans c2,(hb3.cell (p:=⟨b3,0,none⟩) hin.out.2.2.1).trans c3,(hb3.cell (p:=⟨b4,0,none⟩) hin.out.2.2.2).trans c4,(hb3.cell (p:=⟨b,off+g*3,none⟩) Q4.out).trans h1,(hb3.cell (p:=⟨b,off+g*3+1,none⟩) Q4.out).trans h2⟩) | go_keep) (fun hHeld=>?_)
   refine tH 0 ?_;refine tH 1 ?_;refine tH 2 ?_;refine tH 3 ?_;refine tH 4 ?_;refine tH 5 ?_;refine tH 6 ?_;refine tH 7 ?_;refine tH 8 ?_;refine tH 9 ?_;refine tH 10 ?_;refine tH 11 ?_;refine tH 12 ?_;refine tH 13 ?_;refine tH 14 ?_;refine tH 15 ?_;refine tH 16 ?_;refine rH 17 (fun K hK=>?_)
   (rw [if_pos (by rfl)];go_simp;go_at_call 158;refine (uA _ _).mono ?_;rintro e w' ⟨rfl,rfl⟩;rw [Hn.out];go_wp2_with fail)
   refine hK.out _ _ ?_ (fun hHeld=>?_)
   ·first | assumption | (exact ⟨(hb3.cell (p:=⟨b1,0,none⟩) hin.out.1).trans c1,(hb3.cell (p:=⟨b2,0,none⟩) hin.out.2.1).trans c2,(hb3.cell (p:=⟨b3,0,none⟩) hin.out.2.2.1).trans c3,(hb3.cell (p:=⟨b4,0,none⟩) hin.out.2.2.2).trans c4,(hb3.cell (p:=⟨b,off+g*3,none⟩) Q4.out).trans h1,(hb3.cell (p:=⟨b,off+g*3+1,none⟩) Q4.out).trans h2⟩) | go_keep
   clear hK K;refine nH ?_;refine tH 18 ?_;refine tH 19 ?_;refine tH 20 ?_;refine tH 21 ?_;refine tH 22 ?_;refine tH 23 ?_;refine tH 24 ?_;refine tH 25 ?_;refine tH 26 ?_;refine rH 27 (fun K hK=>?_)
   (rw [if_pos (by rfl)];go_simp;go_at_call 156;refine (AP r y.guard u _ (show dK w.drew _ _ from Hr.out)).mono ?_;rintro e w2 ⟨rfl,hb2⟩;have hb3:Below w.heap.size w w2:=⟨hb2.os,hb2.tape,hb2.output,hb2.size,hb2.block⟩;go_wp2_with fail)
   refine hK.out _ _ ?_ (fun hHeld=>?_)
   ·first | assumption | (exact ⟨(hb3.cell (p:=⟨b1,0,none⟩) hin.out.1).trans c1,(hb3.cell (p:=⟨b2,0,none⟩) hin.out.2.1).trans c2,(hb3.cell (p:=⟨b3,0,none⟩) hin.out.2.2.1).trans c3,(hb3.cell (p:=⟨b4,0,none⟩) hin.out.2.2.2).trans c4,(hb3.cell (p:=⟨b,off+g*3,none⟩) Q4.out).trans h1,(hb3.cell (p:=⟨b,off+g*3+1,none⟩) Q4.out).trans h2⟩) | go_keep
   clear hK K;refine nH ?_;refine tH 28 ?_;refine tH 29 ?_;refine tH 30 ?_;refine tH 31 ?_;refine wpAnyH_done (by kernel_rfl) ?_ _;go_wp2_with fail;go_ret;exact ⟨ak (by rw [HF.out];rfl),hb3⟩
  have hkb:(y.kind==kind - 1)=false:=by simpa using hky
  have hkb2:(y.kind != kind - 1)=true:=by simpa using hky
  rw [hkb] at HF;clear hky hkb;go_enter Tryz.func157,Tryz.ntmps157;go_wp2_with fail;refine (bZ _ _ (by omega)).mono ?_;rintro e w' ⟨rfl,rfl⟩;rw [C_ He.out];go_wp2_with fail;refine wp_region_held_drew (S:=(fun wz=>wz.cell? ⟨b1,0,none⟩=some (.int .i64 t)∧wz.cell? ⟨b2,0,none⟩=some (.slice (some ⟨b,off,none⟩) l.length cap1)∧wz.cell? ⟨b3,0,none⟩=some (.int .i64 kind)∧wz.cell? ⟨b4,0,none⟩=some u∧wz.cell? ⟨b,off+g*3,none⟩=some (.int .i64 y.kind)∧wz.cell? ⟨b,off+g*3+1,none⟩=some (.string y.guard))) (by kernel_rfl) (by first | assumption | go_keep) (fun hHeld=>?_)
  refine tH 0 ?_;refine tH 1 ?_;refine tH 2 ?_;refine tH 3 ?_;refine tH 4 ?_;refine tH 5 ?_;refine tH 6 ?_;refine tH 7 ?_;refine tH 8 ?_;refine tH 9 ?_;refine tH 10 ?_;refine tH 11 ?_;refine tH 12 ?_;refine tH 13 ?_;refine tH 14 ?_;refine tH 15 ?_;refine tH 16 ?_;refine rH 17 (fun K hK=>?_)
  (rw [if_pos (by rfl)];go_simp;go_at_call 158;refine (uA _ _).mono ?_;rintro e w' ⟨rfl,rfl⟩;rw [Hn.out];go_wp2_with fail)
  refine hK.out _ _ ?_ (fun hHeld=>?_)
  ·first | assumption | go_keep
  clear hK K;refine nH ?_;refine tH 18 ?_;refine tH 19 ?_;refine tH 20 ?_;refine sH 21 ?_;refine sH 22 ?_;refine sH 23 ?_;refine sH 24 ?_;refine sH 25 ?_;refine sH 26 ?_;refine sH 27 ?_;refine sH 28 ?_;refine tH 29 ?_;refine tH 30 ?_;refine tH 31 ?_;refine wpAnyH_done (by kernel_rfl) ?_ _;go_wp2_with fail;go_ret;exact ⟨ak (by rw [HF.out];rfl),⟨rfl,rfl,rfl,Nat.le_refl _,fun _ _=>rfl⟩⟩
theorem Nj (m:List (List Int)) (l:List Kx.aG) (f:Nat) (kind:Int) (r:List Kx.Str):((List.range (Kx.row m f).length).any fun k=>!Kx.gK l f ((Kx.row m f).getD k 0) kind r)=!Kx.rowOk m l f kind r:=by
 unfold Kx.rowOk;rw [Bool.eq_iff_iff,List.any_eq_true,Bool.not_eq_true',List.all_eq_false];constructor
 ·rintro ⟨k,hk,hq⟩;have hk:k<(Kx.row m f).length:=by simpa using hk
  exact ⟨(Kx.row m f)[k],List.getElem_mem hk,by simpa [hk] using hq⟩
 rintro ⟨x,hx,hq⟩;obtain ⟨k,hk,rfl⟩:=List.getElem_of_mem hx;exact ⟨k,by simpa using hk,by simpa [hk] using hq⟩
theorem BA (m:List (List Int)) (l:List Kx.aG) (f:Nat) (kind:Int) (r:List Kx.Str) (vm v u:Value) (w:World) (hm:RM w vm m) (hmo:Kx.bW m=true) (h:bV w v l) (h12:l.length=12) (hr:dK w u r) (hk:kind=2∨kind=3) (hf:f<12) :
  Calls Tryz.prog 95 #[vm,v,.int .i64 f,.int .i64 kind,u] w fun e w'=>e=.returned (.bool (Kx.rowOk m l f kind r))∧Below w.heap.size w w':=by
 obtain ⟨w1,hw1⟩:∃ w1,w.alloc (.cells #[v] 32)=w1:=⟨_,rfl⟩;have B1:=af (show Below w.heap.size w w1 from hw1 ▸ dm);obtain ⟨c1,l1⟩:=(show w1.cell? ⟨w.heap.size,0,none⟩=some v∧w.heap.size<w1.heap.size from hw1 ▸ Ih.new w _ _)
 obtain ⟨w2,hw2⟩:∃ w2,w1.alloc (.cells #[.int .i64 (f:Int)] 3)=w2:=⟨_,rfl⟩;have B2:=af (show Below w1.heap.size w1 w2 from hw2 ▸ dm);obtain ⟨c2,l2⟩:=(show w2.cell? ⟨w1.heap.size,0,none⟩=some (.int .i64 (f:Int))∧w1.heap.size<w2.heap.size from hw2 ▸ Ih.new w1 _ _);obtain ⟨w3,hw3⟩:∃ w3,w2.alloc (.cells #[.int .i64 kind] 3)=w3:=⟨_,rfl⟩;have B3:=af (show Below w2.heap.size w2 w3 from hw3 ▸ dm);obtain ⟨c3,l3⟩:=(show w3.cell? ⟨w2.heap.size,0,none⟩=some (.int .i64 kind)∧w2.heap.size<w3.heap.size from hw3 ▸ Ih.new w2 _ _);obtain ⟨w4,hw4⟩:∃ w4,w3.alloc (.cells #[u] 62)=w4:=⟨_,rfl⟩;have B4:=af (show Below w3.heap.size w3 w4 from hw4 ▸ dm);obtain ⟨c4,l4⟩:=(show w4.cell? ⟨w3.heap.size,0,none⟩=some u∧w3.heap.size<w4.heap.size from hw4 ▸ Ih.new w3 _ _)
 have VR:=af (B3.out.trans (B4.out.mono B3.out.size));have VS:=af (B2.out.trans (VR.out.mono B2.out.size));have Ti:=af (B1.out.trans (VS.out.mono B1.out.size));have d1:=af ((VS.out.cell (p:=⟨w.heap.size,0,none⟩) l1).trans c1);have d2:=af ((VR.out.cell (p:=⟨w1.heap.size,0,none⟩) l2).trans c2);have d3:=af ((B4.out.cell (p:=⟨w2.heap.size,0,none⟩) l3).trans c3);have d4:=af c4;have L:=af (show w.heap.size<w4.heap.size∧w1.heap.size<w4.heap.size∧w2.heap.size<w4.heap.size∧w3.heap.size<w4.heap.size from ⟨Nat.lt_of_lt_of_le l1 VS.out.size,Nat.lt_of_lt_of_le l2 VR.out.size,Nat.lt_of_lt_of_le l3 B4.out.size,l4⟩);obtain ⟨b,off,cap,ur,rfl,hcell,hrow⟩:=(hm.below Ti.out).row hmo hf;have wJ:(f:Int)<12:=by omega
 have vW:=af (mem_row hmo hf).2.2;have hc:=qF 157 #[.pointer (some ⟨w1.heap.size,0,none⟩),.pointer (some ⟨w.heap.size,0,none⟩),.pointer (some ⟨w2.heap.size,0,none⟩),.pointer (some ⟨w3.heap.size,0,none⟩)] (fun k=>!Kx.gK l f ((Kx.row m f).getD k 0) kind r) (Kx.row m f) ur w4 hrow
  ⟨Proofs.enters_of Tryz.func157 (by kernel_rfl) rfl,fun k W hkl hb=>by
   have hbw:=Ti.out.trans (hb.mono Ti.out.size);have hxm:(Kx.row m f).getD k 0 ∈ Kx.row m f:=by rw [show (Kx.row m f).getD k 0=(Kx.row m f)[k] from by simp [hkl]];exact List.getElem_mem hkl
   have Oq:=(vW.out _ hxm).2;exact Nh l f _ kind r w1.heap.size w.heap.size w2.heap.size w3.heap.size v u W (RS.below h hbw) h12 (RS.below hr hbw) hk (by omega)
    ((hb.cell (p:=⟨w1.heap.size,0,none⟩) L.out.2.1).trans d2.out) ((hb.cell (p:=⟨w.heap.size,0,none⟩) L.out.1).trans d1.out) ((hb.cell (p:=⟨w2.heap.size,0,none⟩) L.out.2.2.1).trans d3.out) ((hb.cell (p:=⟨w3.heap.size,0,none⟩) L.out.2.2.2).trans d4.out)⟩
 rw [Nj] at hc;have HC:=af hc;have e2:=d2.out;obtain ⟨a1,cp1,rfl,_,_⟩:=RS.val h;obtain ⟨a2,cp2,rfl,_,_⟩:=RS.val hr;clear hc c1 c2 c3 c4 l1 l2 l3 l4 hm h hr hrow h12 hmo;go_enter Tryz.func95,Tryz.ntmps95;go_wp2_with (go_at_call 154;refine HC.out.mono ?_;rintro en w' ⟨rfl,hb'⟩;have kR:=af hb';clear hb');go_ret;exact ⟨ak (by simp),Ti.out.trans (kR.out.mono Ti.out.size)⟩
end Go.Proofs.YtliebkfligagnaaGreatDoor
