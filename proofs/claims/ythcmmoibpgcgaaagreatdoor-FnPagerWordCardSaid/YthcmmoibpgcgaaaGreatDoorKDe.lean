/- KD19, KD20, joined. -/
import Derived.Test.YthcmmoibpgcgaaaGreatDoorKD16
set_option maxHeartbeats 4000000
set_option maxRecDepth 100000
set_option linter.all false
open Nat renaming le_trans->A1,zero_le->A2,le_refl->A3
open Int renaming eq_ofNat_of_zero_le->A4
open Go.Value renaming slice->A0
open Go.Proofs.Tryz
namespace Go.Proofs.YthcmmoibpgcgaaaGreatDoor
open Go.RowKit Kx
structure L1 (w W:World) (rb q g2 t2:Nat) (l2:List Value):Prop where
 r:RD W rb q
 g:w.grownBy W (some rb)
 x2:BX W g2 t2 l2
 h:rb<w.heap.size/\w.heap.size<=g2
structure LB (w W:World) (rb q g2 g3 t2 t3:Nat) (l2 l3:List Value):Prop where
 r:RD W rb q
 g:w.grownBy W (some rb)
 x2:BX W g2 t2 l2
 x3:BX W g3 t3 l3
 h:rb<w.heap.size/\w.heap.size<=g2/\g2<g3
section
variable {w W V:World} {rb q q' g2 g3 t2 t3:Nat} {l2 l3:List Value}
theorem L1.pick (h:L1 w W rb q g2 t2 l2) (hr:RD V rb q') (hg:W.grownBy V (some rb)):L1 w V rb q' g2 t2 l2:=
 ⟨hr,grownBy_trans h.g hg,(hg.block g2 h.x2.lt (by have:=h.h;simp;omega)).trans h.x2,h.h⟩
theorem L1.below (h:L1 w W rb q g2 t2 l2) (hb:Below W.heap.size W V):L1 w V rb q g2 t2 l2:=
 h.pick (h.r.keep hb) (grown_below hb ⟨hb.os,hb.tape,hb.output⟩)
theorem L1.lit (h:L1 w W rb q g2 t2 l2) (o:Obj):L1 w (W.alloc o) rb q g2 t2 l2:=h.below (dm)
theorem L1.start (hr:RD w rb q) (cs:Array Value):L1 w (w.alloc (.cells cs t2)) rb q w.heap.size t2 cs.toList:=
 ⟨hr.keep (dm),grownBy_alloc (World.grownBy.refl _ _) _,BX.new w _ cs,hr.lt,A3 _⟩
theorem L1.box (h:L1 w W rb q g2 t2 l2) (cs:Array Value):LB w (W.alloc (.cells cs t3)) rb q g2 W.heap.size t2 t3 l2 cs.toList:=
 ⟨h.r.keep (dm),grownBy_alloc h.g _,h.x2.below (dm),BX.new W _ cs,h.h.1,h.h.2,h.x2.lt⟩
theorem LB.pick (h:LB w W rb q g2 g3 t2 t3 l2 l3) (hr:RD V rb q') (hg:W.grownBy V (some rb)):LB w V rb q' g2 g3 t2 t3 l2 l3:=
 ⟨hr,grownBy_trans h.g hg,(hg.block g2 h.x2.lt (by have:=h.h;simp;omega)).trans h.x2,(hg.block g3 h.x3.lt (by have:=h.h;simp;omega)).trans h.x3,h.h⟩
theorem LB.below (h:LB w W rb q g2 g3 t2 t3 l2 l3) (hb:Below W.heap.size W V):LB w V rb q g2 g3 t2 t3 l2 l3:=
 h.pick (h.r.keep hb) (grown_below hb ⟨hb.os,hb.tape,hb.output⟩)
theorem LB.lit (h:LB w W rb q g2 g3 t2 t3 l2 l3) (o:Obj):LB w (W.alloc o) rb q g2 g3 t2 t3 l2 l3:=h.below (dm)
theorem LB.store (h:LB w W rb q g2 g3 t2 t3 l2 l3) (i:Nat) (v:Value):LB w (W.setCell ⟨g3,i,none⟩ v) rb q g2 g3 t2 t3 l2 (l3.set i v):=
 ⟨h.r.grown (aK W g3 i v) (fun k hk=>by cases hk;have:=h.h;omega),ed h.g (aK W g3 i v) (fun k hk=>by cases hk;have:=h.h;omega),h.x2.other (by have:=h.h;omega) i v,h.x3.set i v,h.h⟩
theorem LB.l1 (h:LB w W rb q g2 g3 t2 t3 l2 l3):L1 w W rb q g2 t2 l2:=⟨h.r,h.g,h.x2,h.h.1,h.h.2.1⟩
theorem L1.fin (h:L1 w W rb q g2 t2 l2) (l:List Value) (hl:l.length=l2.length):L1 w (sets W g2 0 l) rb q g2 t2 l:=by
 obtain ⟨a,b⟩:=mi (w:=w) (g:=g2) (by have:=h.h;omega) h.h.2 l 0 h.r h.g;exact ⟨a,b,h.x2.sets l hl,h.h⟩
theorem L1.went {p n:Nat} (h:L1 w W rb q g2 t2 l2) (hq:q<=p+n):nP rb p n w W:=⟨q,hq,h.r,h.g⟩
end
theorem wI {w V:World} {rb:Nat} (xs:List Int) (hx:xs.length<=1000) (hrb:rb<w.heap.size) (hg:(w.alloc (.cells (flat iR xs).toArray 3)).grownBy V (some rb)) {n:Nat} (hn:n<xs.length) :
  ∃ z:Int,V.cell? ⟨w.heap.size,n,none⟩=some (I_ z):=by
 have HO:=(OS.lit (l:=xs) (f:=iR) (sz:=1) (e:=3) (w:=w) (base:=w.heap.size) aW (flat iR xs).toArray rfl (by rw [List.size_toArray,flat_length (sz:=1) (fun _=>rfl)]) (by omega)).oi;obtain ⟨b,off,cap,ev,_,hc⟩:=(HO.jT hrb hg).ri.at (k:=n) hn;obtain ⟨⟨rfl,rfl,_⟩,_,rfl⟩:=Zb ev;clear ev;rw [Nat.zero_add] at hc;exact ⟨_,hc⟩
theorem Gp (rb p:Nat) (w:World) (h:RD w rb p) (hp:p<=900000) :
  Calls prog 261 #[.pointer (some ⟨rb,0,none⟩)] w fun e w'=>∃ x:Int,e=.returned (I_ x)/\nP rb p 2 w w':=by
 have hlt:=h.lt;go_enter func261,ntmps261;go_wp2_with fail;refine (afR 16 h).mono ?_;rintro e w1 ⟨x,rfl,x0,x1,hr,hg⟩;have hlt1:=hr.lt;have Hr:=af hr;have Hg:=af hg;clear hr hg h
 by_cases h0:x=0
 ·subst h0;have B1:Below w1.heap.size w1 (w1.alloc (.cells #[I_ (-1),I_ 12,I_ 100] 3)):=dm;have HC:=af (aN rb (p+1) 3 (w1.alloc (.cells #[I_ (-1),I_ 12,I_ 100] 3)) (Hr.o.keep B1) (by omega) (by omega) (by omega));clear B1;go_wp2_with fail;refine HC.o.mono ?_;rintro e w2 ⟨y,rfl,y0,y1,hr,hg⟩;obtain ⟨n,rfl⟩:=A4 y0;obtain ⟨z,hc⟩:=wI [-1,12,100] (by decide) hlt1 hg (n:=n) (by simp;omega);have Hw:=af (show nP rb p 2 w w2 from ⟨p+2,by omega,hr,grownBy_trans (grownBy_alloc Hg.o _) hg⟩);clear hr hg HC;go_wp2_with fail;go_ret;exact ⟨z,rfl,Hw.o⟩
 have UI:(x==0)=false:=by simpa using h0
 go_wp2_with fail;refine (afR 12 Hr.o).mono ?_;rintro e w2 ⟨y,rfl,y0,y1,hr2,hg2⟩;have Hw:=af (show nP rb p 2 w w2 from ⟨p+2,by omega,hr2,grownBy_trans Hg.o hg2⟩);clear hr2 hg2;go_wp2_with fail;go_ret;exact ⟨_,rfl,Hw.o⟩
theorem BX.c3' {w:World} {g t:Nat} {a b c:Value} (h:BX w g t [a,b,c]):w.cell? ⟨g,0,none⟩=some a/\w.cell? ⟨g,1,none⟩=some b/\w.cell? ⟨g,2,none⟩=some c:=⟨h.cell 0,h.cell 1,h.cell 2⟩
theorem BX.f3' {w:World} {g t:Nat} {cs:List Value} (h:BX w g t cs):w.frozen? ⟨g,0,none⟩=false/\w.frozen? ⟨g,1,none⟩=false/\w.frozen? ⟨g,2,none⟩=false:=⟨h.frozen 0,h.frozen 1,h.frozen 2⟩
def GR:List Kx.Str:=[⟨#[97]⟩,⟨#[97]⟩,⟨#[98]⟩,⟨#[97,98]⟩,⟨#[]⟩]
theorem G9 (rb p:Nat) (w:World) (h:RD w rb p) (hp:p<=700000) :
  Calls prog 155 #[.pointer (some ⟨rb,0,none⟩)] w fun e w'=>∃ x:aG,e=.returned (kN x)/\x.guard.size<=5/\nP rb p 9 w w':=by
 have H1:=af (L1.start (t2:=98) h #[I_ 0,.string ⟨#[]⟩,I_ 0]);obtain ⟨w0,hw0⟩:=XP (w.alloc (.cells #[I_ 0,.string ⟨#[]⟩,I_ 0] 98));rw [hw0] at H1;clear h;go_enter func155,ntmps155;go_wp2_with fail;refine (afR 3 H1.o.r).mono ?_;rintro e w1 ⟨x,rfl,x0,x1,hr,hg⟩;replace H1:=af (H1.o.pick hr hg);clear hr hg hw0
 by_cases hx:x=0
 ·subst hx;have HZ:=af (H1.o.fin [I_ 0,.string ⟨#[]⟩,I_ 0] rfl);obtain ⟨d0,d1,d2⟩:=H1.o.x2.c3';obtain ⟨z0,z1,z2⟩:=H1.o.x2.f3';go_wp2_with fail;obtain ⟨F,hF⟩:=XP (sets w1 w.heap.size 0 [I_ 0,.string ⟨#[]⟩,I_ 0]);rw [afz w1,hF];rw [hF] at HZ;obtain ⟨e0,e1,e2⟩:=HZ.o.x2.c3';refine af7 (by simp [results,results155,go_sem,e0,e1,e2]<;>rfl) ?_;exact ⟨⟨0,⟨#[]⟩,0⟩,rfl,by decide,HZ.o.went (by omega)⟩
 have hxb:(x==0)=false:=by simpa using hx
 clear hx;go_wp2_with fail;refine (afR 3 H1.o.r).mono ?_;rintro e w2 ⟨a,rfl,a0,a1,hr,hg⟩;replace H1:=af (H1.o.pick hr hg);obtain ⟨kd,hkd⟩:∃ m:Int,1+a=m:=⟨_,rfl⟩;have HA:=af (H1.o.lit (.cells #[.string ⟨#[97]⟩,.string ⟨#[97]⟩,.string ⟨#[98]⟩,.string ⟨#[97,98]⟩,.string ⟨#[]⟩] 9));have hrl:=H1.o.r.lt;have HC:=af (JY rb _ GR (A0 (some ⟨w2.heap.size,0,none⟩) 5 5) (w2.alloc (.cells (flat df GR).toArray 9)) HA.o.r (by omega) (OS.lit (l:=GR) (f:=df) (sz:=1) (e:=9) (w:=w2) (base:=0) (A2 _) _ rfl rfl (by decide)).rs (by decide) (by decide) (fun a n c e=>by simp only [Value.slice.injEq,Option.some.injEq] at e;obtain ⟨rfl,_⟩:=e;simp;omega));clear hr hg;go_wp2_with fail;refine HC.o.mono ?_;rintro e w3 ⟨s,hs,rfl,hr,hg⟩;have Hs:=af (show s.size<=5 from (show ∀ s ∈ GR,s.size<=5 by decide) s hs)
 replace H1:=af (HA.o.pick hr hg);clear hr hg HC HA hs;go_wp2_with fail;refine (afR 2 H1.o.r).mono ?_;rintro e w4 ⟨b,rfl,b0,b1,hr,hg⟩;replace H1:=af (H1.o.pick hr hg);clear hr hg;go_wp2_with fail;refine (afR 3 H1.o.r).mono ?_;rintro e w5 ⟨c,rfl,c0,c1,hr,hg⟩;replace H1:=af (H1.o.pick hr hg);obtain ⟨rf,hrf⟩:∃ m:Int,b*c=m:=⟨_,rfl⟩;have hr0:0<=rf:=by rw [<-hrf];exact Int.mul_nonneg b0 c0
 have hr1:rf<=4:=by rw [<-hrf];exact Int.le_trans (Int.mul_le_mul (by omega:b<=2) (by omega:c<=2) c0 (by omega)) (by omega)
 have H:=af (H1.o.box (t3:=98) #[I_ kd,.string s,I_ rf]);obtain ⟨w6,hw6⟩:=XP (w5.alloc (.cells #[I_ kd,.string s,I_ rf] 98));rw [hw6] at H;obtain ⟨g3,hg3⟩:=XP w5.heap.size;rw [hg3] at H;clear hr hg H1;go_wp2_with fail
 try rw [hw6]
 refine (afR 60 H.o.r).mono ?_;rintro e w7 ⟨y,rfl,y0,y1,hr,hg⟩;replace H:=af (H.o.pick hr hg);clear hr hg hw6 hg3 hkd hrf
 by_cases k0:y=0
 ·subst k0;have HA:=af (H.o.lit (.cells #[I_ (-1),I_ 0,I_ 4] 3));have hrl:=H.o.r.lt;go_wp2_with fail;refine (afR 3 HA.o.r).mono ?_;rintro en V1 ⟨x1,rfl,u0,u1,hr,hg⟩;obtain ⟨n1,rfl⟩:=A4 u0;obtain ⟨zz,hc⟩:=wI [-1,0,4] (by decide) hrl hg (n:=n1) (by simp;omega);replace H:=af (HA.o.pick hr hg);clear hr hg HA;have HZ:=af ((H.o.store 0 (I_ zz)).l1.fin [I_ zz,.string s,I_ rf] rfl);have hgg:w.heap.size<g3:=H.o.h.2.2;have hgn:w.heap.size≠g3:=by omega
  obtain ⟨c0,c1,c2⟩:=H.o.x3.c3';obtain ⟨y0,y1,y2⟩:=H.o.x3.f3';obtain ⟨d0,d1,d2⟩:=H.o.x2.c3';obtain ⟨z0,z1,z2⟩:=H.o.x2.f3';go_wp2_with fail;obtain ⟨F,hF⟩:=XP (sets (V1.setCell ⟨g3,0,none⟩ (I_ zz)) w.heap.size 0 [I_ zz,.string s,I_ rf]);rw [show ((((V1.setCell ⟨g3,0,none⟩ (I_ zz)).setCell ⟨w.heap.size,0,none⟩ (I_ zz)).setCell ⟨w.heap.size,1,none⟩ (.string s)).setCell ⟨w.heap.size,2,none⟩ (I_ rf))=F from hF];rw [hF] at HZ;obtain ⟨e0,e1,e2⟩:=HZ.o.x2.c3';refine af7 (by simp [results,results155,go_sem,e0,e1,e2]<;>rfl) ?_;exact ⟨⟨_,_,_⟩,rfl,Hs.o,HZ.o.went (by omega)⟩
 have n0:(y==0)=false:=by simpa using k0
 clear k0
 by_cases k1:y=1
 ·subst k1;go_wp2_with fail;refine (pG rb _ _ H.o.r (by omega)).mono ?_;rintro en V1 ⟨s2,hs2,rfl,q2,hq2,hr,hg⟩;replace H:=af (H.o.pick hr hg);clear hr hg;have HZ:=af ((H.o.store 1 (.string s2)).l1.fin [I_ kd,.string s2,I_ rf] rfl);have hgg:w.heap.size<g3:=H.o.h.2.2;have hgn:w.heap.size≠g3:=by omega
  obtain ⟨c0,c1,c2⟩:=H.o.x3.c3';obtain ⟨y0,y1,y2⟩:=H.o.x3.f3';obtain ⟨d0,d1,d2⟩:=H.o.x2.c3';obtain ⟨z0,z1,z2⟩:=H.o.x2.f3';go_wp2_with fail;obtain ⟨F,hF⟩:=XP (sets (V1.setCell ⟨g3,1,none⟩ (.string s2)) w.heap.size 0 [I_ kd,.string s2,I_ rf]);rw [show ((((V1.setCell ⟨g3,1,none⟩ (.string s2)).setCell ⟨w.heap.size,0,none⟩ (I_ kd)).setCell ⟨w.heap.size,1,none⟩ (.string s2)).setCell ⟨w.heap.size,2,none⟩ (I_ rf))=F from hF];rw [hF] at HZ;obtain ⟨e0,e1,e2⟩:=HZ.o.x2.c3';refine af7 (by simp [results,results155,go_sem,e0,e1,e2]<;>rfl) ?_;exact ⟨⟨_,_,_⟩,rfl,hs2,HZ.o.went (by omega)⟩
 have n1:(y==1)=false:=by simpa using k1
 clear k1
 by_cases k2:y=2
 ·subst k2;have HA:=af (H.o.lit (.cells #[I_ (-1),I_ 50,I_ 51] 3));have hrl:=H.o.r.lt;go_wp2_with fail;refine (afR 3 HA.o.r).mono ?_;rintro en V1 ⟨x1,rfl,u0,u1,hr,hg⟩;obtain ⟨n1,rfl⟩:=A4 u0;obtain ⟨zz,hc⟩:=wI [-1,50,51] (by decide) hrl hg (n:=n1) (by simp;omega);replace H:=af (HA.o.pick hr hg);clear hr hg HA;have HZ:=af ((H.o.store 2 (I_ zz)).l1.fin [I_ kd,.string s,I_ zz] rfl);have hgg:w.heap.size<g3:=H.o.h.2.2;have hgn:w.heap.size≠g3:=by omega
  obtain ⟨c0,c1,c2⟩:=H.o.x3.c3';obtain ⟨y0,y1,y2⟩:=H.o.x3.f3';obtain ⟨d0,d1,d2⟩:=H.o.x2.c3';obtain ⟨z0,z1,z2⟩:=H.o.x2.f3';go_wp2_with fail;obtain ⟨F,hF⟩:=XP (sets (V1.setCell ⟨g3,2,none⟩ (I_ zz)) w.heap.size 0 [I_ kd,.string s,I_ zz]);rw [show ((((V1.setCell ⟨g3,2,none⟩ (I_ zz)).setCell ⟨w.heap.size,0,none⟩ (I_ kd)).setCell ⟨w.heap.size,1,none⟩ (.string s)).setCell ⟨w.heap.size,2,none⟩ (I_ zz))=F from hF];rw [hF] at HZ;obtain ⟨e0,e1,e2⟩:=HZ.o.x2.c3';refine af7 (by simp [results,results155,go_sem,e0,e1,e2]<;>rfl) ?_;exact ⟨⟨_,_,_⟩,rfl,Hs.o,HZ.o.went (by omega)⟩
 have n2:(y==2)=false:=by simpa using k2
 clear k2;have HZ:=af (H.o.l1.fin [I_ kd,.string s,I_ rf] rfl);have hgg:w.heap.size<g3:=H.o.h.2.2;have hgn:w.heap.size≠g3:=by omega
 obtain ⟨c0,c1,c2⟩:=H.o.x3.c3';obtain ⟨y0,y1,y2⟩:=H.o.x3.f3';obtain ⟨d0,d1,d2⟩:=H.o.x2.c3';obtain ⟨z0,z1,z2⟩:=H.o.x2.f3';go_wp2_with fail;obtain ⟨F,hF⟩:=XP (sets w7 w.heap.size 0 [I_ kd,.string s,I_ rf]);rw [afz w7,hF];rw [hF] at HZ;obtain ⟨e0,e1,e2⟩:=HZ.o.x2.c3';refine af7 (by simp [results,results155,go_sem,e0,e1,e2]<;>rfl) ?_;exact ⟨⟨_,_,_⟩,rfl,Hs.o,HZ.o.went (by omega)⟩
theorem xB (rb p:Nat) (w:World) (h:RD w rb p) (hp:p<=700000) :
  Calls prog 211 #[.pointer (some ⟨rb,0,none⟩)] w fun e w'=>∃ x:Kx.Cached,e=.returned (iT x)/\nP rb p 9 w w':=by
 have H1:=af (L1.start (t2:=103) h #[I_ 0,I_ 0,I_ 0,.bool false]);obtain ⟨w0,hw0⟩:=XP (w.alloc (.cells #[I_ 0,I_ 0,I_ 0,.bool false] 103));rw [hw0] at H1;clear h;go_enter func211,ntmps211;go_wp2_with fail;refine (afR 3 H1.o.r).mono ?_;rintro e w1 ⟨a,rfl,a0,a1,hr,hg⟩;replace H1:=af (H1.o.pick hr hg);clear hr hg hw0;go_wp2_with fail;refine (afR 4 H1.o.r).mono ?_;rintro e w2 ⟨b,rfl,b0,b1,hr,hg⟩;replace H1:=af (H1.o.pick hr hg);clear hr hg;go_wp2_with fail;refine (afR 12 H1.o.r).mono ?_;rintro e w3 ⟨c,rfl,c0,c1,hr,hg⟩;replace H1:=af (H1.o.pick hr hg);have HB:=af (H1.o.box (t3:=103) #[I_ 0,I_ 0,I_ 0,.bool false])
 obtain ⟨w6,hw6⟩:=XP (w3.alloc (.cells #[I_ 0,I_ 0,I_ 0,.bool false] 103));rw [hw6] at HB;obtain ⟨g3,hg3⟩:=XP w3.heap.size;rw [hg3] at HB;have c0':=HB.o.x3.c4;have y0:=HB.o.x3.f4;have H:=af ((((HB.o.store 0 (I_ a)).store 1 (I_ b)).store 2 (I_ c)).store 3 (.bool false));clear hr hg H1;go_wp2_with fail;obtain ⟨w6',UD⟩:∃ V,(((w6.setCell ⟨g3,0,none⟩ (I_ a)).setCell ⟨g3,1,none⟩ (I_ b)).setCell ⟨g3,2,none⟩ (I_ c)).setCell ⟨g3,3,none⟩ (.bool false)=V:=⟨_,rfl⟩;rw [UD] at H ⊢;replace H:=af (show LB w w6' rb _ w.heap.size g3 103 103 [I_ 0,I_ 0,I_ 0,.bool false] [I_ a,I_ b,I_ c,.bool false] from H.o);clear UD HB c0' y0
 refine (afR 2 H.o.r).mono ?_;rintro e w7 ⟨x,rfl,x0,x1,hr,hg⟩;replace H:=af (H.o.pick hr hg);clear hr hg hw6 hg3;obtain ⟨wr,hwr⟩:=XP (x==0);have HN:=af (H.o.store 3 (.bool wr));obtain ⟨w8,hw8⟩:=XP (w7.setCell ⟨g3,3,none⟩ (.bool wr));rw [hw8] at HN;have c0':=H.o.x3.c4;have y0:=H.o.x3.f4;go_wp2_with fail
 try rw [hw8]
 clear c0' y0 H;refine (afR 24 HN.o.r).mono ?_;rintro e w9 ⟨y,rfl,ZP,ZQ,hr,hg⟩;have H:=af (HN.o.pick hr hg);clear hr hg hw8 hwr HN
 by_cases k0:y=0
 ·subst k0;have HA:=af (H.o.lit (.cells #[I_ (-1),I_ 3] 3));have hrl:=H.o.r.lt;go_wp2_with fail;refine (afR 2 HA.o.r).mono ?_;rintro en V1 ⟨x1,rfl,u0,u1,hr,hg⟩;obtain ⟨n1,rfl⟩:=A4 u0;obtain ⟨zz,hc⟩:=wI [-1,3] (by decide) hrl hg (n:=n1) (by simp;omega);replace H:=af (HA.o.pick hr hg);clear hr hg HA;have HZ:=af ((H.o.store 0 (I_ zz)).l1.fin [I_ zz,I_ b,I_ c,.bool wr] rfl);have hgg:w.heap.size<g3:=H.o.h.2.2;have hgn:w.heap.size≠g3:=by omega
  obtain ⟨c0,c1,c2,c3⟩:=H.o.x3.c4;have y0:=H.o.x3.f4;have d0:=H.o.x2.c4;have z0:=H.o.x2.f4;go_wp2_with fail;obtain ⟨F,hF⟩:=XP (sets (V1.setCell ⟨g3,0,none⟩ (I_ zz)) w.heap.size 0 [I_ zz,I_ b,I_ c,.bool wr]);rw [show (((((V1.setCell ⟨g3,0,none⟩ (I_ zz)).setCell ⟨w.heap.size,0,none⟩ (I_ zz)).setCell ⟨w.heap.size,1,none⟩ (I_ b)).setCell ⟨w.heap.size,2,none⟩ (I_ c)).setCell ⟨w.heap.size,3,none⟩ (.bool wr))=F from hF];rw [hF] at HZ;refine af7 (by simp [results,results211,go_sem,HZ.o.x2.c4]<;>rfl) ?_;exact ⟨⟨_,_,_,_⟩,rfl,HZ.o.went (by omega)⟩
 have n0:(y==0)=false:=by simpa using k0
 clear k0
 by_cases k1:y=1
 ·subst k1;have HA:=af (H.o.lit (.cells #[I_ (-1),I_ 15,I_ 16] 3));have hrl:=H.o.r.lt;go_wp2_with fail;refine (afR 3 HA.o.r).mono ?_;rintro en V1 ⟨x1,rfl,u0,u1,hr,hg⟩;obtain ⟨n1,rfl⟩:=A4 u0;obtain ⟨zz,hc⟩:=wI [-1,15,16] (by decide) hrl hg (n:=n1) (by simp;omega);replace H:=af (HA.o.pick hr hg);clear hr hg HA;have HZ:=af ((H.o.store 1 (I_ zz)).l1.fin [I_ a,I_ zz,I_ c,.bool wr] rfl);have hgg:w.heap.size<g3:=H.o.h.2.2;have hgn:w.heap.size≠g3:=by omega
  obtain ⟨c0,c1,c2,c3⟩:=H.o.x3.c4;have y0:=H.o.x3.f4;have d0:=H.o.x2.c4;have z0:=H.o.x2.f4;go_wp2_with fail;obtain ⟨F,hF⟩:=XP (sets (V1.setCell ⟨g3,1,none⟩ (I_ zz)) w.heap.size 0 [I_ a,I_ zz,I_ c,.bool wr]);rw [show (((((V1.setCell ⟨g3,1,none⟩ (I_ zz)).setCell ⟨w.heap.size,0,none⟩ (I_ a)).setCell ⟨w.heap.size,1,none⟩ (I_ zz)).setCell ⟨w.heap.size,2,none⟩ (I_ c)).setCell ⟨w.heap.size,3,none⟩ (.bool wr))=F from hF];rw [hF] at HZ;refine af7 (by simp [results,results211,go_sem,HZ.o.x2.c4]<;>rfl) ?_;exact ⟨⟨_,_,_,_⟩,rfl,HZ.o.went (by omega)⟩
 have n1:(y==1)=false:=by simpa using k1
 clear k1
 by_cases k2:y=2
 ·subst k2;go_wp2_with fail;refine (Gp rb _ _ H.o.r (by omega)).mono ?_;rintro en V1 ⟨f2,rfl,q2,hq2,hr,hg⟩;replace H:=af (H.o.pick hr hg);clear hr hg;have HZ:=af ((H.o.store 2 (I_ f2)).l1.fin [I_ a,I_ b,I_ f2,.bool wr] rfl);have hgg:w.heap.size<g3:=H.o.h.2.2;have hgn:w.heap.size≠g3:=by omega
  obtain ⟨c0,c1,c2,c3⟩:=H.o.x3.c4;have y0:=H.o.x3.f4;have d0:=H.o.x2.c4;have z0:=H.o.x2.f4;go_wp2_with fail;obtain ⟨F,hF⟩:=XP (sets (V1.setCell ⟨g3,2,none⟩ (I_ f2)) w.heap.size 0 [I_ a,I_ b,I_ f2,.bool wr]);rw [show (((((V1.setCell ⟨g3,2,none⟩ (I_ f2)).setCell ⟨w.heap.size,0,none⟩ (I_ a)).setCell ⟨w.heap.size,1,none⟩ (I_ b)).setCell ⟨w.heap.size,2,none⟩ (I_ f2)).setCell ⟨w.heap.size,3,none⟩ (.bool wr))=F from hF];rw [hF] at HZ;refine af7 (by simp [results,results211,go_sem,HZ.o.x2.c4]<;>rfl) ?_;exact ⟨⟨_,_,_,_⟩,rfl,HZ.o.went (by omega)⟩
 have n2:(y==2)=false:=by simpa using k2
 clear k2;have HZ:=af (H.o.l1.fin [I_ a,I_ b,I_ c,.bool wr] rfl);have hgg:w.heap.size<g3:=H.o.h.2.2;have hgn:w.heap.size≠g3:=by omega
 obtain ⟨c0,c1,c2,c3⟩:=H.o.x3.c4;have y0:=H.o.x3.f4;have d0:=H.o.x2.c4;have z0:=H.o.x2.f4;go_wp2_with fail;obtain ⟨F,hF⟩:=XP (sets w9 w.heap.size 0 [I_ a,I_ b,I_ c,.bool wr]);rw [afA w9,hF];rw [hF] at HZ;refine af7 (by simp [results,results211,go_sem,HZ.o.x2.c4]<;>rfl) ?_;exact ⟨⟨_,_,_,_⟩,rfl,HZ.o.went (by omega)⟩
theorem OS.jT {α:Type} {f:α->List Value} {sz:Nat} {e:TypeId} {w w':World} {base rb:Nat} {v:Value} {l:List α} (h:OS f sz e w base v l) (hr:rb<base) (hg:w.grownBy w' (some rb)):OS f sz e w' base v l:=by
 refine h.kept hg ?_
 cases hv:v.ownBlock with
 | none=>exact .inl rfl
 | some k =>
  refine .inr fun eq=>?_
  obtain rfl:k=rb:=by simpa using eq
  have:=(h.lt k hv).1
  omega
theorem abq (c:List Kx.Cached) (x:Kx.Cached) (v:Value) (w:World) (h:dZ w v c) (hl:c.length<=1000) :
  Calls prog 210 #[v,iT x] w (yH b_ 4 103 w (if dA c&&dn x then qp c x else []) [.bool (dA c&&dn x)]):=by
 obtain ⟨w0,hw0⟩:=XP (w.alloc (.cells #[I_ x.env,I_ x.page,I_ x.frame,.bool x.write] 103));have B0:=af (show Below w.heap.size w w0 from hw0 ▸ dm);have X0:=af (show BX w0 w.heap.size 103 [I_ x.env,I_ x.page,I_ x.frame,.bool x.write] from (hw0 ▸ BX.new w _ _:BX w0 _ _ _));have HC:=af (RS.below h B0.o);have HF:=af (pq x);obtain ⟨b,hbv⟩:=XP (dA c&&dn x);rw [hbv];obtain ⟨r,oU⟩:∃ r,(if b=true then qp c x else [])=r:=⟨_,rfl⟩;rw [oU];have X_:=af hbv;have nZ:=af oU;clear hbv oU;have HP:=af (show ∀ W,dZ W v c->_ from fun W hW=>Gx c x v W hW hl);unfold iT at HF ⊢;clear h;go_enter func210,ntmps210;go_wp2_with fail;clear hw0;refine (oh c _ _ HC.o).mono ?_;rintro e w1 ⟨rfl,hb⟩
 replace B0:=af (B0.o.trans (hb.mono B0.o.size));replace X0:=af (X0.o.below hb);replace HC:=af (RS.below HC.o hb);clear hb;have k0:=X0.o.c4
 cases hv:dA c with
 | false =>
  obtain rfl:b=false:=by rw [<-X_.o,hv];rfl
  obtain rfl:[]=r:=by have:=nZ.o;simpa using this
  clear hv;have HN:=af (show OS b_ 4 103 (w1.alloc (.cells #[] 103)) w.heap.size (A0 (some ⟨w1.heap.size,0,none⟩) 0 0) [] from OS.d_ B0.o.size);have HB:=af (B0.o.alloc B0.o.size (.cells #[] 103));go_wp2_with fail;go_ret2;exact ⟨_,rfl,HN.o,HB.o⟩
 | true =>
  have Hv:=af hv;clear hv;go_wp2_with fail;refine (HF.o _).mono ?_;rintro e w2 ⟨rfl,hb⟩;replace B0:=af (B0.o.trans (hb.mono B0.o.size));replace X0:=af (X0.o.below hb);replace HC:=af (RS.below HC.o hb);clear hb k0;have k0:=X0.o.c4
  cases hv:dn x with
  | false =>
   obtain rfl:b=false:=by rw [<-X_.o,hv];simp
   obtain rfl:[]=r:=by have:=nZ.o;simpa using this
   clear hv;have HN:=af (show OS b_ 4 103 (w2.alloc (.cells #[] 103)) w.heap.size (A0 (some ⟨w2.heap.size,0,none⟩) 0 0) [] from OS.d_ B0.o.size);have HB:=af (B0.o.alloc B0.o.size (.cells #[] 103));go_wp2_with fail;go_ret2;exact ⟨_,rfl,HN.o,HB.o⟩
  | true =>
   obtain rfl:b=true:=by rw [<-X_.o,Hv.o,hv];rfl
   obtain rfl:qp c x=r:=by have:=nZ.o;simpa using this
   clear hv;go_wp2_with fail;refine (HP.o _ HC.o).mono ?_;rintro e w3 ⟨u,rfl,ho,hb⟩;have HN:=af (ho.mono B0.o.size);have HB:=af (B0.o.trans (hb.mono B0.o.size));clear ho hb;go_wp2_with fail;go_ret2;exact ⟨_,rfl,HN.o,HB.o⟩
theorem LZ (l:List Kx.Cached) (s:Kx.Cached):(qp l s).length<=l.length+1:=by
 unfold qp;simp only;rw [List.length_append];have:=List.length_filter_le (fun y:Kx.Cached=>y.env != s.env||y.page != s.page) l;split <;> simp <;> omega
def QT (rb p:Nat) (w:World) (e:Ending) (w':World):Prop:=∃ (u:Value) (l:List Kx.Str),e=.returned u/\OS df 1 9 w' w.heap.size u l/\(∀ s ∈ l,s.size<=5)/\nP rb p 20 w w'
def QU (rb p:Nat) (w:World) (e:Ending) (w':World):Prop:=∃ (u:Value) (l:List Kx.Cached),e=.returned u/\OS b_ 4 103 w' w.heap.size u l/\nP rb p 80 w w'
theorem mf {l:List Kx.Str} (h:aS l=true):l.length<=6/\∀ s ∈ l,s.size<=5:=by
 have h1:=gJ.1 h;exact ⟨h1.2.2,fun s hs=>A1 (pJ (h1.1 s hs)) (by decide)⟩
def L8:List Kx.Str:=[⟨#[97]⟩,⟨#[97,97]⟩,⟨#[97,98]⟩,⟨#[98]⟩,⟨#[98,97]⟩,⟨#[99]⟩]
theorem Dy (rb p:Nat) (w:World) (h:RD w rb p) (hp:p<=700000) :
  Calls prog 156 #[.pointer (some ⟨rb,0,none⟩)] w (QT rb p w):=by
 have hlt:=h.lt;have R0:=af (h.keep (Below.lit (Below.refl w.heap.size w) (.cells #[] 9)));have O0:=af (OS.d_ (f:=df) (sz:=1) (e:=9) (w:=w) (A3 w.heap.size));have G0:=af (grownBy_alloc (World.grownBy.refl w (some rb)) (.cells #[] 9));clear h;go_enter func156,ntmps156;go_wp2_with fail;refine (afR 7 R0.o).mono ?_;rintro e w1 ⟨n,rfl,n0,n1,hr,hg⟩;have R1:=af hr;have O1:=af (O0.o.jT hlt hg);have G1:=af (grownBy_trans G0.o hg);clear hr hg R0 O0 G0;obtain ⟨n,rfl⟩:=A4 n0;go_wp2_with fail;go_loopw [3,5] (fun v i wr=>∃ (j q:Nat) (l:List Kx.Str),i=I_ j/\j<=n/\q<=p+1+2*j/\TI (aS l=true)/\TI (OS df 1 9 wr w.heap.size v l)/\TI (RD wr rb q)/\TI (w.grownBy wr (some rb))) (fun _ i _=>n - (intOf i).toNat)
 case atStart=>exact ⟨0,_,[],rfl,A2 _,by omega,by show _=_;rfl,O1,R1,G1⟩
 case round =>
  clear R1 O1 G1;obtain ⟨j,q,l,rfl,hj,hq,hok,ho,hr,hg⟩:=hrel;have hsz:=hg.o.size
  by_cases hlt2:j<n
  ·have kQ:(j:Int)<(n:Int):=by omega
   go_wp2_with fail;refine (pG rb q _ hr.o (by omega)).mono ?_;rintro e w2 ⟨s,hs,rfl,q2,hq2,hr2,hg2⟩;have xG:=af hr2;have l7:=af (ho.o.jT hlt hg2);have DT:=af (grownBy_trans hg.o hg2);have hsz2:=DT.o.size;obtain ⟨ok,Jk⟩:=XP (aS l&&bT s&&(jS l s).2);have HC:=af (qc l s _ w2 l7.o.rs (fun x hx=>A1 ((mf hok.o).2 x hx) (by decide)) (by omega))
   rw [Jk] at HC;have Ya:=af Jk;clear hr2 hg2 hs Jk;go_wp2_with fail;refine HC.o.mono ?_;rintro e w3 ⟨u,rfl,ho3,hb3⟩;have Ci:=af (xG.o.keep hb3);have ql:=af (grownBy_trans DT.o (grown_below (rb:=rb) hb3 ⟨hb3.os,hb3.tape,hb3.output⟩));have jJ:=af (l7.o.below hb3);have MB:=af (ho3.mono hsz2);clear ho3 hb3 HC
   cases ok with
   | true =>
    have h3:(aS l=true/\bT s=true)/\(jS l s).2=true:=by have:=Ya.o;simpa only [Bool.and_eq_true] using this
    have Hl:=af (show aS (jS l s).1=true from uQ h3.1.1 h3.1.2);rw [h3.1.1,h3.1.2] at MB;replace MB:=af (show OS df 1 9 w3 w.heap.size u (jS l s).1 from MB.o);clear h3;go_wp2_with fail;go_roundw
    case rel=>exact ⟨j+1,q2,_,by go_num,by omega,by omega,Hl,MB,Ci,ql⟩
    case measure=>simp [intOf];omega
   | false =>
    go_wp2_with fail;go_roundw
    case rel=>exact ⟨j+1,q2,l,by go_num,by omega,by omega,hok,jJ,Ci,ql⟩
    case measure=>simp [intOf];omega
  obtain rfl:j=n:=by omega
  go_wp2_with fail;refine (afR 20 hr.o).mono ?_;rintro e w2 ⟨x,rfl,x0,x1,hr2,hg2⟩;have xG:=af hr2;have l7:=af (ho.o.jT hlt hg2);have DT:=af (grownBy_trans hg.o hg2);clear hr2 hg2 hr hg ho
  by_cases hx:x=0
  ·subst hx;go_wp2_with fail;refine (pG rb _ _ xG.o (by omega)).mono ?_;rintro e w3 ⟨s,hs,rfl,q3,hq3,hr3,hg3⟩;have jJ:=af (l7.o.jT hlt hg3);have B3:Below w3.heap.size w3 (w3.alloc (.cells #[.string s] 9)):=dm;have Ci:=af (hr3.keep B3);have ql:=af (grownBy_trans (grownBy_trans DT.o hg3) (grown_below (rb:=rb) B3 ⟨B3.os,B3.tape,B3.output⟩));replace jJ:=af (jJ.o.below B3);have hR:=af (show RS df 1 (w3.alloc (.cells #[.string s] 9)) (A0 (some ⟨w3.heap.size,0,none⟩) 1 1) [s] from RS.one (f:=df) s #[.string s] rfl w3 _);have hln:=af (show l.length+[s].length<=1099511627776 by have:=(mf hok.o).1;simp;omega);have hzz:=af ql.o.size;have Hs:=af hs;clear hr3 hg3 B3 hs
   go_wp2_with (at_builtin;refine aV gX rfl _ _ rfl w.heap.size _ l rfl jJ.o _ [s] rfl hR.o hln.o hzz.o ?_;intro v4 w4 iV hg4 _;have kH:=af iV;have rU:=af hg4;clear iV hg4);go_ret;refine ⟨_,_,rfl,kH.o,fun x hx=>?_,q3,by omega,Ci.o.grown rU.o (fun k hk=>by have:=(jJ.o.lt k hk).1;omega),ed ql.o rU.o (fun k hk=>(jJ.o.lt k hk).1)⟩
   rcases List.mem_append.1 hx with h | h
   ·exact (mf hok.o).2 x h
   simp at h;subst h;exact Hs.o
  have hxb:(x==0)=false:=by simpa using hx
  clear hx;go_wp2_with fail;refine (afR 20 xG.o).mono ?_;rintro e w3 ⟨y,rfl,y0,y1,hr3,hg3⟩;have Ci:=af hr3;have jJ:=af (l7.o.jT hlt hg3);have ql:=af (grownBy_trans DT.o hg3);clear hr3 hg3
  by_cases hy:y=0
  ·subst hy;have HL:=af (OS.lit (l:=L8) (f:=df) (sz:=1) (e:=9) (w:=w3) (base:=w.heap.size) ql.o.size #[.string ⟨#[97]⟩,.string ⟨#[97,97]⟩,.string ⟨#[97,98]⟩,.string ⟨#[98]⟩,.string ⟨#[98,97]⟩,.string ⟨#[99]⟩] rfl rfl (by decide));have B3:Below w3.heap.size w3 (w3.alloc (.cells #[.string ⟨#[97]⟩,.string ⟨#[97,97]⟩,.string ⟨#[97,98]⟩,.string ⟨#[98]⟩,.string ⟨#[98,97]⟩,.string ⟨#[99]⟩] 9)):=dm;have Hw:=af (show nP rb p 20 w _ from ⟨_,by omega,Ci.o.keep B3,grownBy_trans ql.o (grown_below (rb:=rb) B3 ⟨B3.os,B3.tape,B3.output⟩)⟩);clear B3;go_wp2_with fail;go_ret;exact ⟨_,L8,rfl,HL.o,by decide,Hw.o⟩
  have hyb:(y==0)=false:=by simpa using hy
  go_wp2_with fail;go_ret;exact ⟨_,l,rfl,jJ.o,(mf hok.o).2,_,by omega,Ci.o,ql.o⟩
theorem Fb (rb p:Nat) (w:World) (h:RD w rb p) (hp:p<=600000) :
  Calls prog 157 #[.pointer (some ⟨rb,0,none⟩)] w (QU rb p w):=by
 have hlt:=h.lt;have R0:=af (h.keep (Below.lit (Below.refl w.heap.size w) (.cells #[] 103)));have O0:=af (OS.d_ (f:=b_) (sz:=4) (e:=103) (w:=w) (A3 w.heap.size));have G0:=af (grownBy_alloc (World.grownBy.refl w (some rb)) (.cells #[] 103));clear h;go_enter func157,ntmps157;go_wp2_with fail;refine (afR 6 R0.o).mono ?_;rintro e w1 ⟨n,rfl,n0,n1,hr,hg⟩;have R1:=af hr;have O1:=af (O0.o.jT hlt hg);have G1:=af (grownBy_trans G0.o hg);clear hr hg R0 O0 G0;obtain ⟨n,rfl⟩:=A4 n0;go_wp2_with fail;go_loopw [3,5] (fun v i wr=>∃ (j q:Nat) (l:List Kx.Cached),i=I_ j/\j<=n/\q<=p+1+9*j/\TI (l.length<=j)/\TI (OS b_ 4 103 wr w.heap.size v l)/\TI (RD wr rb q)/\TI (w.grownBy wr (some rb))) (fun _ i _=>n - (intOf i).toNat)
 case atStart=>exact ⟨0,_,[],rfl,A2 _,by omega,af (A2 _),O1,R1,G1⟩
 case round =>
  clear R1 O1 G1;obtain ⟨j,q,l,rfl,hj,hq,hok,ho,hr,hg⟩:=hrel;have hsz:=hg.o.size
  by_cases hlt2:j<n
  ·have kQ:(j:Int)<(n:Int):=by omega
   go_wp2_with fail;refine (xB rb q _ hr.o (by omega)).mono ?_;rintro e w2 ⟨s,rfl,q2,hq2,hr2,hg2⟩;have xG:=af hr2;have l7:=af (ho.o.jT hlt hg2);have DT:=af (grownBy_trans hg.o hg2);have hsz2:=DT.o.size;obtain ⟨ok,Jk⟩:=XP (dA l&&dn s);have HC:=af (abq l s _ w2 l7.o.rs (by have:=hok.o;omega));rw [Jk] at HC;clear hr2 hg2 Jk;go_wp2_with fail;refine HC.o.mono ?_;rintro e w3 ⟨u,rfl,ho3,hb3⟩;have Ci:=af (xG.o.keep hb3);have ql:=af (grownBy_trans DT.o (grown_below (rb:=rb) hb3 ⟨hb3.os,hb3.tape,hb3.output⟩));have jJ:=af (l7.o.below hb3);have MB:=af (ho3.mono hsz2);clear ho3 hb3 HC
   cases ok with
   | true =>
    replace MB:=af (show OS b_ 4 103 w3 w.heap.size u (qp l s) from MB.o);have Hl:=af (show (qp l s).length<=j+1 by have:=hok.o;exact A1 (LZ l s) (by omega));go_wp2_with fail;go_roundw
    case rel=>exact ⟨j+1,q2,_,by go_num,by omega,by omega,Hl,MB,Ci,ql⟩
    case measure=>simp [intOf];omega
   | false =>
    have Hl:=af (show l.length<=j+1 by have:=hok.o;omega);go_wp2_with fail;go_roundw
    case rel=>exact ⟨j+1,q2,l,by go_num,by omega,by omega,Hl,jJ,Ci,ql⟩
    case measure=>simp [intOf];omega
  obtain rfl:j=n:=by omega
  go_wp2_with fail;refine (afR 20 hr.o).mono ?_;rintro e w2 ⟨x,rfl,x0,x1,hr2,hg2⟩;have xG:=af hr2;have l7:=af (ho.o.jT hlt hg2);have DT:=af (grownBy_trans hg.o hg2);have Yb:=af DT.o.size;clear hr2 hg2 hr hg ho
  by_cases hx:x=0
  ·subst hx;go_wp2_with fail;refine (xB rb _ _ xG.o (by omega)).mono ?_;rintro e w3 ⟨s,rfl,q3,hq3,hr3,hg3⟩;have jJ:=af (l7.o.jT hlt hg3);have B3:Below w3.heap.size w3 (w3.alloc (.cells #[I_ s.env,I_ s.page,I_ s.frame,.bool s.write] 103)):=dm;have Ci:=af (hr3.keep B3);have ql:=af (grownBy_trans (grownBy_trans DT.o hg3) (grown_below (rb:=rb) B3 ⟨B3.os,B3.tape,B3.output⟩));replace jJ:=af (jJ.o.below B3);have hR:=af (show RS b_ 4 (w3.alloc (.cells #[I_ s.env,I_ s.page,I_ s.frame,.bool s.write] 103)) (A0 (some ⟨w3.heap.size,0,none⟩) 1 1) [s] from RS.one (f:=b_) s #[I_ s.env,I_ s.page,I_ s.frame,.bool s.write] rfl w3 _);have hln:=af (show l.length+[s].length<=1099511627776 by have:=hok.o;simp;omega);have hzz:=af ql.o.size;clear hr3 hg3 B3;unfold iT
   go_wp2_with (at_builtin;refine aV gB rfl _ _ rfl w.heap.size _ l rfl jJ.o _ [s] rfl hR.o hln.o hzz.o ?_;intro v4 w4 iV hg4 _;have kH:=af iV;have rU:=af hg4;clear iV hg4);go_ret;exact ⟨_,_,rfl,kH.o,q3,by omega,Ci.o.grown rU.o (fun k hk=>by have:=(jJ.o.lt k hk).1;omega),ed ql.o rU.o (fun k hk=>(jJ.o.lt k hk).1)⟩
  have hxb:(x==0)=false:=by simpa using hx
  clear hx
  by_cases hy:x=1
  ·subst hy;have hln:=af (show l.length+l.length<=1099511627776 by have:=hok.o;omega);go_wp2_with (at_builtin;refine aV gB rfl _ _ rfl w.heap.size _ l rfl l7.o _ l rfl l7.o.rs hln.o Yb.o ?_;intro v4 w4 iV hg4 _;have kH:=af iV;have rU:=af hg4;clear iV hg4);go_ret;exact ⟨_,_,rfl,kH.o,_,by omega,xG.o.grown rU.o (fun k hk=>by have:=(l7.o.lt k hk).1;omega),ed DT.o rU.o (fun k hk=>(l7.o.lt k hk).1)⟩
  have hyb:(x==1)=false:=by simpa using hy
  go_wp2_with fail;go_ret;exact ⟨_,l,rfl,l7.o,_,by omega,xG.o,DT.o⟩
end Go.Proofs.YthcmmoibpgcgaaaGreatDoor
