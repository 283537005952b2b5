/- KD19, KD20, joined. -/
import Derived.Test.YtenebmeaoidnoaaGreatDoorKD16
import Derived.Test.YtenebmeaoidnoaaGreatDoorKY
namespace Go.Proofs.YtenebmeaoidnoaaGreatDoor
open Go.RowKit
/-- a draw under way: the reader, the result's box -/
structure L1 (w W:World) (rb q g2 t2:Nat) (l2:List Value):Prop where
  r:RD W rb q
  g:w.grownBy W (some rb)
  x2:BX W g2 t2 l2
  h:rb<w.heap.size∧w.heap.size≤g2
/-- the same, and a further box -/
structure LB (w W:World) (rb q g2 g3 t2 t3:Nat) (l2 l3:List Value):Prop where
  r:RD W rb q
  g:w.grownBy W (some rb)
  x2:BX W g2 t2 l2
  x3:BX W g3 t3 l3
  h:rb<w.heap.size∧w.heap.size≤g2∧g2<g3
section
variable {w W V:World} {rb q q' g2 g3 t2 t3:Nat} {l2 l3:List Value}
theorem L1.pick (h:L1 w W rb q g2 t2 l2) (hr:RD V rb q') (hg:W.grownBy V (some rb)):L1 w V rb q' g2 t2 l2:=
  ⟨hr,grownBy_trans h.g hg,(hg.block g2 h.x2.lt (by have:=h.h;simp;omega)).trans h.x2,h.h⟩
theorem L1.below (h:L1 w W rb q g2 t2 l2) (hb:Below W.heap.size W V):L1 w V rb q g2 t2 l2:=
  h.pick (h.r.keep hb) (grown_below hb ⟨hb.os,hb.tape,hb.output⟩)
theorem L1.lit (h:L1 w W rb q g2 t2 l2) (o:Obj):L1 w (W.alloc o) rb q g2 t2 l2:=h.below (bL_)
theorem L1.start (hr:RD w rb q) (cs:Array Value):L1 w (w.alloc (.cells cs t2)) rb q w.heap.size t2 cs.toList:=
  ⟨hr.keep (bL_),grownBy_alloc (World.grownBy.refl _ _) _,BX.new w _ cs,hr.lt,Nat.le_refl _⟩
theorem L1.box (h:L1 w W rb q g2 t2 l2) (cs:Array Value):LB w (W.alloc (.cells cs t3)) rb q g2 W.heap.size t2 t3 l2 cs.toList:=
  ⟨h.r.keep (bL_),grownBy_alloc h.g _,h.x2.below (bL_),BX.new W _ cs,h.h.1,h.h.2,h.x2.lt⟩
theorem LB.pick (h:LB w W rb q g2 g3 t2 t3 l2 l3) (hr:RD V rb q') (hg:W.grownBy V (some rb)):LB w V rb q' g2 g3 t2 t3 l2 l3:=
  ⟨hr,grownBy_trans h.g hg,(hg.block g2 h.x2.lt (by have:=h.h;simp;omega)).trans h.x2,(hg.block g3 h.x3.lt (by have:=h.h;simp;omega)).trans h.x3,h.h⟩
theorem LB.below (h:LB w W rb q g2 g3 t2 t3 l2 l3) (hb:Below W.heap.size W V):LB w V rb q g2 g3 t2 t3 l2 l3:=
  h.pick (h.r.keep hb) (grown_below hb ⟨hb.os,hb.tape,hb.output⟩)
theorem LB.lit (h:LB w W rb q g2 g3 t2 t3 l2 l3) (o:Obj):LB w (W.alloc o) rb q g2 g3 t2 t3 l2 l3:=h.below (bL_)
theorem LB.store (h:LB w W rb q g2 g3 t2 t3 l2 l3) (i:Nat) (v:Value):LB w (W.setCell ⟨g3,i,none⟩ v) rb q g2 g3 t2 t3 l2 (l3.set i v):=
  ⟨h.r.grown (grown_set1 W g3 i v) (fun k hk=>by cases hk;have:=h.h;omega),grownBy_later h.g (grown_set1 W g3 i v) (fun k hk=>by cases hk;have:=h.h;omega),h.x2.other (by have:=h.h;omega) i v,h.x3.set i v,h.h⟩
theorem LB.l1 (h:LB w W rb q g2 g3 t2 t3 l2 l3):L1 w W rb q g2 t2 l2:=⟨h.r,h.g,h.x2,h.h.1,h.h.2.1⟩
theorem L1.fin (h:L1 w W rb q g2 t2 l2) (l:List Value) (hl:l.length=l2.length):L1 w (sets W g2 0 l) rb q g2 t2 l:=by
  obtain ⟨a,b⟩:=went_sets (w:=w) (g:=g2) (by have:=h.h;omega) h.h.2 l 0 h.r h.g;exact ⟨a,b,h.x2.sets l hl,h.h⟩
theorem L1.went {p n:Nat} (h:L1 w W rb q g2 t2 l2) (hq:q≤p+n):Went rb p n w W:=⟨q,hq,h.r,h.g⟩
end
/-- a number of a literal is read behind a pick -/
theorem lit_at {w V:World} {rb:Nat} (xs:List Int) (hx:xs.length≤1000) (hrb:rb<w.heap.size) (hg:(w.alloc (.cells (flat intC xs).toArray 3)).grownBy V (some rb)) {n:Nat} (hn:n<xs.length) :
    ∃ z:Int,V.cell? ⟨w.heap.size,n,none⟩=some (.int .i64 z):=by
  have HO:=(OS.lit (l:=xs) (f:=intC) (sz:=1) (e:=3) (w:=w) (base:=w.heap.size) nR_ (flat intC xs).toArray rfl (by rw [List.size_toArray,flat_length (sz:=1) (fun _=>rfl)]) (by omega)).oi;obtain ⟨b,off,cap,ev,_,hc⟩:=(HO.keptRb hrb hg).ri.at (k:=n) hn;simp only [Value.slice.injEq,Option.some.injEq,Addr.mk.injEq] at ev;obtain ⟨⟨rfl,rfl,_⟩,_,rfl⟩:=ev;rw [Nat.zero_add] at hc;exact ⟨_,hc⟩
set_option maxHeartbeats 2000000 in
set_option maxRecDepth 100000 in
theorem l91Frame_c (rb p:Nat) (w:World) (h:RD w rb p) (hp:p≤900000) :
    Calls Tryz.prog 149 #[.pointer (some ⟨rb,0,none⟩)] w fun e w'=>∃ x:Int,e=.returned (.int .i64 x)∧Went rb p 2 w w':=by
  have hlt:=h.lt;go_enter Tryz.func149,Tryz.ntmps149;go_wp2_with fail;refine (pick_c rb p 16 _ h (by omega) (by omega) (by omega)).mono ?_;rintro e w1 ⟨x,rfl,x0,x1,hr,hg⟩;have hlt1:=hr.lt;have Hr:=hI_ hr;have Hg:=hI_ hg;clear hr hg h
  by_cases h0:x=0
  · subst h0;have B1:Below w1.heap.size w1 (w1.alloc (.cells #[.int .i64 (-1),.int .i64 12,.int .i64 100] 3)):=bL_;have HC:=hI_ (pick_c rb (p+1) 3 (w1.alloc (.cells #[.int .i64 (-1),.int .i64 12,.int .i64 100] 3)) (Hr.out.keep B1) (by omega) (by omega) (by omega));clear B1;go_wp2_with fail;refine HC.out.mono ?_;rintro e w2 ⟨y,rfl,y0,y1,hr,hg⟩;obtain ⟨n,rfl⟩:=Int.eq_ofNat_of_zero_le y0;obtain ⟨z,hc⟩:=lit_at [-1,12,100] (by decide) hlt1 hg (n:=n) (by simp;omega);have Hw:=hI_ (show Went rb p 2 w w2 from ⟨p+2,by omega,hr,grownBy_trans (grownBy_alloc Hg.out _) hg⟩);clear hr hg HC;go_wp2_with fail;go_ret;exact ⟨z,rfl,Hw.out⟩
  · have h0b:(x==0)=false:=by simpa using h0
    go_wp2_with fail;refine (pick_c rb (p+1) 12 _ Hr.out (by omega) (by omega) (by omega)).mono ?_;rintro e w2 ⟨y,rfl,y0,y1,hr2,hg2⟩;have Hw:=hI_ (show Went rb p 2 w w2 from ⟨p+2,by omega,hr2,grownBy_trans Hg.out hg2⟩);clear hr2 hg2;go_wp2_with fail;go_ret;exact ⟨_,rfl,Hw.out⟩
theorem BX.c3' {w:World} {g t:Nat} {a b c:Value} (h:BX w g t [a,b,c]):w.cell? ⟨g,0,none⟩=some a∧w.cell? ⟨g,1,none⟩=some b∧w.cell? ⟨g,2,none⟩=some c:=⟨h.cell 0,h.cell 1,h.cell 2⟩
theorem BX.f3' {w:World} {g t:Nat} {cs:List Value} (h:BX w g t cs):w.frozen? ⟨g,0,none⟩=false∧w.frozen? ⟨g,1,none⟩=false∧w.frozen? ⟨g,2,none⟩=false:=⟨h.frozen 0,h.frozen 1,h.frozen 2⟩
def lits5:List Kx.Str:=[⟨#[97]⟩,⟨#[97]⟩,⟨#[98]⟩,⟨#[97,98]⟩,⟨#[]⟩]
set_option maxHeartbeats 4000000 in
set_option maxRecDepth 100000 in
theorem l91Info_c (rb p:Nat) (w:World) (h:RD w rb p) (hp:p≤700000) :
    Calls Tryz.prog 66 #[.pointer (some ⟨rb,0,none⟩)] w fun e w'=>∃ x:Kx.Info,e=.returned (infoV x)∧x.guard.size≤5∧Went rb p 9 w w':=by
  have H1:=hI_ (L1.start (t2:=45) h #[.int .i64 0,.string ⟨#[]⟩,.int .i64 0]);obtain ⟨w0,hw0⟩:∃ w0,w.alloc (.cells #[.int .i64 0,.string ⟨#[]⟩,.int .i64 0] 45)=w0:=⟨_,rfl⟩;rw [hw0] at H1;clear h;go_enter Tryz.func66,Tryz.ntmps66;go_wp2_with fail;refine (pick_c rb _ 3 _ H1.out.r (by omega) (by omega) (by omega)).mono ?_;rintro e w1 ⟨x,rfl,x0,x1,hr,hg⟩;replace H1:=hI_ (H1.out.pick hr hg);clear hr hg hw0
  by_cases hx:x=0
  · subst hx;have HZ:=hI_ (H1.out.fin [.int .i64 0,.string ⟨#[]⟩,.int .i64 0] rfl);obtain ⟨d0,d1,d2⟩:=H1.out.x2.c3';obtain ⟨z0,z1,z2⟩:=H1.out.x2.f3';go_wp2_with fail;obtain ⟨F,hF⟩:∃ V,sets w1 w.heap.size 0 [.int .i64 0,.string ⟨#[]⟩,.int .i64 0]=V:=⟨_,rfl⟩;rw [show (((w1.setCell ⟨w.heap.size,0,none⟩ (.int .i64 0)).setCell ⟨w.heap.size,1,none⟩ (.string ⟨#[]⟩)).setCell ⟨w.heap.size,2,none⟩ (.int .i64 0))=F from hF];rw [hF] at HZ;obtain ⟨e0,e1,e2⟩:=HZ.out.x2.c3';refine bodyPost_ret (v:=.agg #[.int .i64 0,.string ⟨#[]⟩,.int .i64 0]) (by simp [results,Tryz.results66,go_sem,e0,e1,e2]) rfl ?_;exact ⟨⟨0,⟨#[]⟩,0⟩,rfl,by decide,HZ.out.went (by omega)⟩
  · have hxb:(x==0)=false:=by simpa using hx
    clear hx;go_wp2_with fail;refine (pick_c rb _ 3 _ H1.out.r (by omega) (by omega) (by omega)).mono ?_;rintro e w2 ⟨a,rfl,a0,a1,hr,hg⟩;replace H1:=hI_ (H1.out.pick hr hg);obtain ⟨kd,hkd⟩:∃ m:Int,1+a=m:=⟨_,rfl⟩;have HA:=hI_ (H1.out.lit (.cells #[.string ⟨#[97]⟩,.string ⟨#[97]⟩,.string ⟨#[98]⟩,.string ⟨#[97,98]⟩,.string ⟨#[]⟩] 9));have hrl:=H1.out.r.lt;have HC:=hI_ (of_c rb _ lits5 (.slice (some ⟨w2.heap.size,0,none⟩) 5 5) (w2.alloc (.cells (flat strC lits5).toArray 9)) HA.out.r (by omega) (OS.lit (l:=lits5) (f:=strC) (sz:=1) (e:=9) (w:=w2) (base:=0) (Nat.zero_le _) _ rfl rfl (by decide)).rs (by decide) (by decide) (fun a n c e=>by simp only [Value.slice.injEq,Option.some.injEq] at e;obtain ⟨rfl,_⟩:=e;simp;omega));clear hr hg;go_wp2_with fail;refine HC.out.mono ?_;rintro e w3 ⟨s,hs,rfl,hr,hg⟩;have Hs:=hI_ (show s.size≤5 from (show ∀ s ∈ lits5,s.size≤5 by decide) s hs)
    replace H1:=hI_ (HA.out.pick hr hg);clear hr hg HC HA hs;go_wp2_with fail;refine (pick_c rb _ 2 _ H1.out.r (by omega) (by omega) (by omega)).mono ?_;rintro e w4 ⟨b,rfl,b0,b1,hr,hg⟩;replace H1:=hI_ (H1.out.pick hr hg);clear hr hg;go_wp2_with fail;refine (pick_c rb _ 3 _ H1.out.r (by omega) (by omega) (by omega)).mono ?_;rintro e w5 ⟨c,rfl,c0,c1,hr,hg⟩;replace H1:=hI_ (H1.out.pick hr hg);obtain ⟨rf,hrf⟩:∃ m:Int,b*c=m:=⟨_,rfl⟩;have hr0:0≤rf:=by rw [←hrf];exact Int.mul_nonneg b0 c0
    have hr1:rf≤4:=by rw [←hrf];exact Int.le_trans (Int.mul_le_mul (by omega:b≤2) (by omega:c≤2) c0 (by omega)) (by omega)
    have H:=hI_ (H1.out.box (t3:=45) #[.int .i64 kd,.string s,.int .i64 rf]);obtain ⟨w6,hw6⟩:∃ V,w5.alloc (.cells #[.int .i64 kd,.string s,.int .i64 rf] 45)=V:=⟨_,rfl⟩;rw [hw6] at H;obtain ⟨g3,hg3⟩:∃ g,w5.heap.size=g:=⟨_,rfl⟩;rw [hg3] at H;clear hr hg H1;go_wp2_with fail
    try rw [hw6]
    refine (pick_c rb _ 60 _ H.out.r (by omega) (by omega) (by omega)).mono ?_;rintro e w7 ⟨y,rfl,y0,y1,hr,hg⟩;replace H:=hI_ (H.out.pick hr hg);clear hr hg hw6 hg3 hkd hrf
    by_cases k0:y=0
    · subst k0;have HA:=hI_ (H.out.lit (.cells #[.int .i64 (-1),.int .i64 0,.int .i64 4] 3));have hrl:=H.out.r.lt;go_wp2_with fail;refine (pick_c rb _ 3 _ HA.out.r (by omega) (by omega) (by omega)).mono ?_;rintro en V1 ⟨x1,rfl,u0,u1,hr,hg⟩;obtain ⟨n1,rfl⟩:=Int.eq_ofNat_of_zero_le u0;obtain ⟨zz,hc⟩:=lit_at [-1,0,4] (by decide) hrl hg (n:=n1) (by simp;omega);replace H:=hI_ (HA.out.pick hr hg);clear hr hg HA;have HZ:=hI_ ((H.out.store 0 (.int .i64 zz)).l1.fin [.int .i64 zz,.string s,.int .i64 rf] rfl);have hgg:w.heap.size<g3:=H.out.h.2.2;have hgn:w.heap.size≠g3:=by omega
      obtain ⟨c0,c1,c2⟩:=H.out.x3.c3';obtain ⟨y0,y1,y2⟩:=H.out.x3.f3';obtain ⟨d0,d1,d2⟩:=H.out.x2.c3';obtain ⟨z0,z1,z2⟩:=H.out.x2.f3';go_wp2_with fail;obtain ⟨F,hF⟩:∃ V,sets (V1.setCell ⟨g3,0,none⟩ (.int .i64 zz)) w.heap.size 0 [.int .i64 zz,.string s,.int .i64 rf]=V:=⟨_,rfl⟩;rw [show ((((V1.setCell ⟨g3,0,none⟩ (.int .i64 zz)).setCell ⟨w.heap.size,0,none⟩ (.int .i64 zz)).setCell ⟨w.heap.size,1,none⟩ (.string s)).setCell ⟨w.heap.size,2,none⟩ (.int .i64 rf))=F from hF];rw [hF] at HZ;obtain ⟨e0,e1,e2⟩:=HZ.out.x2.c3';refine bodyPost_ret (v:=.agg #[.int .i64 zz,.string s,.int .i64 rf]) (by simp [results,Tryz.results66,go_sem,e0,e1,e2]) rfl ?_;exact ⟨⟨_,_,_⟩,rfl,Hs.out,HZ.out.went (by omega)⟩
    have n0:(y==0)=false:=by simpa using k0
    clear k0
    by_cases k1:y=1
    · subst k1;go_wp2_with fail;refine (l91Right_c rb _ _ H.out.r (by omega)).mono ?_;rintro en V1 ⟨s2,hs2,rfl,q2,hq2,hr,hg⟩;replace H:=hI_ (H.out.pick hr hg);clear hr hg;have HZ:=hI_ ((H.out.store 1 (.string s2)).l1.fin [.int .i64 kd,.string s2,.int .i64 rf] rfl);have hgg:w.heap.size<g3:=H.out.h.2.2;have hgn:w.heap.size≠g3:=by omega
      obtain ⟨c0,c1,c2⟩:=H.out.x3.c3';obtain ⟨y0,y1,y2⟩:=H.out.x3.f3';obtain ⟨d0,d1,d2⟩:=H.out.x2.c3';obtain ⟨z0,z1,z2⟩:=H.out.x2.f3';go_wp2_with fail;obtain ⟨F,hF⟩:∃ V,sets (V1.setCell ⟨g3,1,none⟩ (.string s2)) w.heap.size 0 [.int .i64 kd,.string s2,.int .i64 rf]=V:=⟨_,rfl⟩;rw [show ((((V1.setCell ⟨g3,1,none⟩ (.string s2)).setCell ⟨w.heap.size,0,none⟩ (.int .i64 kd)).setCell ⟨w.heap.size,1,none⟩ (.string s2)).setCell ⟨w.heap.size,2,none⟩ (.int .i64 rf))=F from hF];rw [hF] at HZ;obtain ⟨e0,e1,e2⟩:=HZ.out.x2.c3';refine bodyPost_ret (v:=.agg #[.int .i64 kd,.string s2,.int .i64 rf]) (by simp [results,Tryz.results66,go_sem,e0,e1,e2]) rfl ?_;exact ⟨⟨_,_,_⟩,rfl,hs2,HZ.out.went (by omega)⟩
    have n1:(y==1)=false:=by simpa using k1
    clear k1
    by_cases k2:y=2
    · subst k2;have HA:=hI_ (H.out.lit (.cells #[.int .i64 (-1),.int .i64 50,.int .i64 51] 3));have hrl:=H.out.r.lt;go_wp2_with fail;refine (pick_c rb _ 3 _ HA.out.r (by omega) (by omega) (by omega)).mono ?_;rintro en V1 ⟨x1,rfl,u0,u1,hr,hg⟩;obtain ⟨n1,rfl⟩:=Int.eq_ofNat_of_zero_le u0;obtain ⟨zz,hc⟩:=lit_at [-1,50,51] (by decide) hrl hg (n:=n1) (by simp;omega);replace H:=hI_ (HA.out.pick hr hg);clear hr hg HA;have HZ:=hI_ ((H.out.store 2 (.int .i64 zz)).l1.fin [.int .i64 kd,.string s,.int .i64 zz] rfl);have hgg:w.heap.size<g3:=H.out.h.2.2;have hgn:w.heap.size≠g3:=by omega
      obtain ⟨c0,c1,c2⟩:=H.out.x3.c3';obtain ⟨y0,y1,y2⟩:=H.out.x3.f3';obtain ⟨d0,d1,d2⟩:=H.out.x2.c3';obtain ⟨z0,z1,z2⟩:=H.out.x2.f3';go_wp2_with fail;obtain ⟨F,hF⟩:∃ V,sets (V1.setCell ⟨g3,2,none⟩ (.int .i64 zz)) w.heap.size 0 [.int .i64 kd,.string s,.int .i64 zz]=V:=⟨_,rfl⟩;rw [show ((((V1.setCell ⟨g3,2,none⟩ (.int .i64 zz)).setCell ⟨w.heap.size,0,none⟩ (.int .i64 kd)).setCell ⟨w.heap.size,1,none⟩ (.string s)).setCell ⟨w.heap.size,2,none⟩ (.int .i64 zz))=F from hF];rw [hF] at HZ;obtain ⟨e0,e1,e2⟩:=HZ.out.x2.c3';refine bodyPost_ret (v:=.agg #[.int .i64 kd,.string s,.int .i64 zz]) (by simp [results,Tryz.results66,go_sem,e0,e1,e2]) rfl ?_;exact ⟨⟨_,_,_⟩,rfl,Hs.out,HZ.out.went (by omega)⟩
    have n2:(y==2)=false:=by simpa using k2
    clear k2;have HZ:=hI_ (H.out.l1.fin [.int .i64 kd,.string s,.int .i64 rf] rfl);have hgg:w.heap.size<g3:=H.out.h.2.2;have hgn:w.heap.size≠g3:=by omega
    obtain ⟨c0,c1,c2⟩:=H.out.x3.c3';obtain ⟨y0,y1,y2⟩:=H.out.x3.f3';obtain ⟨d0,d1,d2⟩:=H.out.x2.c3';obtain ⟨z0,z1,z2⟩:=H.out.x2.f3';go_wp2_with fail;obtain ⟨F,hF⟩:∃ V,sets w7 w.heap.size 0 [.int .i64 kd,.string s,.int .i64 rf]=V:=⟨_,rfl⟩;rw [show (((w7.setCell ⟨w.heap.size,0,none⟩ (.int .i64 kd)).setCell ⟨w.heap.size,1,none⟩ (.string s)).setCell ⟨w.heap.size,2,none⟩ (.int .i64 rf))=F from hF];rw [hF] at HZ;obtain ⟨e0,e1,e2⟩:=HZ.out.x2.c3';refine bodyPost_ret (v:=.agg #[.int .i64 kd,.string s,.int .i64 rf]) (by simp [results,Tryz.results66,go_sem,e0,e1,e2]) rfl ?_;exact ⟨⟨_,_,_⟩,rfl,Hs.out,HZ.out.went (by omega)⟩
set_option maxHeartbeats 4000000 in
set_option maxRecDepth 100000 in
theorem l91Cached_c (rb p:Nat) (w:World) (h:RD w rb p) (hp:p≤700000) :
    Calls Tryz.prog 113 #[.pointer (some ⟨rb,0,none⟩)] w fun e w'=>∃ x:Kx.Cached,e=.returned (cachedV x)∧Went rb p 9 w w':=by
  have H1:=hI_ (L1.start (t2:=33) h #[.int .i64 0,.int .i64 0,.int .i64 0,.bool false]);obtain ⟨w0,hw0⟩:∃ w0,w.alloc (.cells #[.int .i64 0,.int .i64 0,.int .i64 0,.bool false] 33)=w0:=⟨_,rfl⟩;rw [hw0] at H1;clear h;go_enter Tryz.func113,Tryz.ntmps113;go_wp2_with fail;refine (pick_c rb _ 3 _ H1.out.r (by omega) (by omega) (by omega)).mono ?_;rintro e w1 ⟨a,rfl,a0,a1,hr,hg⟩;replace H1:=hI_ (H1.out.pick hr hg);clear hr hg hw0;go_wp2_with fail;refine (pick_c rb _ 4 _ H1.out.r (by omega) (by omega) (by omega)).mono ?_;rintro e w2 ⟨b,rfl,b0,b1,hr,hg⟩;replace H1:=hI_ (H1.out.pick hr hg);clear hr hg;go_wp2_with fail;refine (pick_c rb _ 12 _ H1.out.r (by omega) (by omega) (by omega)).mono ?_;rintro e w3 ⟨c,rfl,c0,c1,hr,hg⟩;replace H1:=hI_ (H1.out.pick hr hg);have HB:=hI_ (H1.out.box (t3:=33) #[.int .i64 0,.int .i64 0,.int .i64 0,.bool false])
  obtain ⟨w6,hw6⟩:∃ V,w3.alloc (.cells #[.int .i64 0,.int .i64 0,.int .i64 0,.bool false] 33)=V:=⟨_,rfl⟩;rw [hw6] at HB;obtain ⟨g3,hg3⟩:∃ g,w3.heap.size=g:=⟨_,rfl⟩;rw [hg3] at HB;obtain ⟨c0',c1',c2',c3'⟩:=HB.out.x3.c4;obtain ⟨y0,y1,y2,y3⟩:=HB.out.x3.f4;have H:=hI_ ((((HB.out.store 0 (.int .i64 a)).store 1 (.int .i64 b)).store 2 (.int .i64 c)).store 3 (.bool false));clear hr hg H1;go_wp2_with fail;obtain ⟨w6',hw6'⟩:∃ V,(((w6.setCell ⟨g3,0,none⟩ (.int .i64 a)).setCell ⟨g3,1,none⟩ (.int .i64 b)).setCell ⟨g3,2,none⟩ (.int .i64 c)).setCell ⟨g3,3,none⟩ (.bool false)=V:=⟨_,rfl⟩;rw [hw6'] at H ⊢;replace H:=hI_ (show LB w w6' rb _ w.heap.size g3 33 33 [.int .i64 0,.int .i64 0,.int .i64 0,.bool false] [.int .i64 a,.int .i64 b,.int .i64 c,.bool false] from H.out);clear hw6' HB c0' c1' c2' c3' y0 y1 y2 y3
  refine (pick_c rb _ 2 _ H.out.r (by omega) (by omega) (by omega)).mono ?_;rintro e w7 ⟨x,rfl,x0,x1,hr,hg⟩;replace H:=hI_ (H.out.pick hr hg);clear hr hg hw6 hg3;obtain ⟨wr,hwr⟩:∃ b,(x==0)=b:=⟨_,rfl⟩;have HN:=hI_ (H.out.store 3 (.bool wr));obtain ⟨w8,hw8⟩:∃ V,w7.setCell ⟨g3,3,none⟩ (.bool wr)=V:=⟨_,rfl⟩;rw [hw8] at HN;obtain ⟨c0',c1',c2',c3'⟩:=H.out.x3.c4;obtain ⟨y0,y1,y2,y3⟩:=H.out.x3.f4;go_wp2_with fail
  try rw [hw8]
  clear c0' c1' c2' c3' y0 y1 y2 y3 H;refine (pick_c rb _ 24 _ HN.out.r (by omega) (by omega) (by omega)).mono ?_;rintro e w9 ⟨y,rfl,yy0,yy1,hr,hg⟩;have H:=hI_ (HN.out.pick hr hg);clear hr hg hw8 hwr HN
  by_cases k0:y=0
  · subst k0;have HA:=hI_ (H.out.lit (.cells #[.int .i64 (-1),.int .i64 3] 3));have hrl:=H.out.r.lt;go_wp2_with fail;refine (pick_c rb _ 2 _ HA.out.r (by omega) (by omega) (by omega)).mono ?_;rintro en V1 ⟨x1,rfl,u0,u1,hr,hg⟩;obtain ⟨n1,rfl⟩:=Int.eq_ofNat_of_zero_le u0;obtain ⟨zz,hc⟩:=lit_at [-1,3] (by decide) hrl hg (n:=n1) (by simp;omega);replace H:=hI_ (HA.out.pick hr hg);clear hr hg HA;have HZ:=hI_ ((H.out.store 0 (.int .i64 zz)).l1.fin [.int .i64 zz,.int .i64 b,.int .i64 c,.bool wr] rfl);have hgg:w.heap.size<g3:=H.out.h.2.2;have hgn:w.heap.size≠g3:=by omega
    obtain ⟨c0,c1,c2,c3⟩:=H.out.x3.c4;obtain ⟨y0,y1,y2,y3⟩:=H.out.x3.f4;obtain ⟨d0,d1,d2,d3⟩:=H.out.x2.c4;obtain ⟨z0,z1,z2,z3⟩:=H.out.x2.f4;go_wp2_with fail;obtain ⟨F,hF⟩:∃ V,sets (V1.setCell ⟨g3,0,none⟩ (.int .i64 zz)) w.heap.size 0 [.int .i64 zz,.int .i64 b,.int .i64 c,.bool wr]=V:=⟨_,rfl⟩;rw [show (((((V1.setCell ⟨g3,0,none⟩ (.int .i64 zz)).setCell ⟨w.heap.size,0,none⟩ (.int .i64 zz)).setCell ⟨w.heap.size,1,none⟩ (.int .i64 b)).setCell ⟨w.heap.size,2,none⟩ (.int .i64 c)).setCell ⟨w.heap.size,3,none⟩ (.bool wr))=F from hF];rw [hF] at HZ;obtain ⟨e0,e1,e2,e3⟩:=HZ.out.x2.c4;refine bodyPost_ret (v:=.agg #[.int .i64 zz,.int .i64 b,.int .i64 c,.bool wr]) (by simp [results,Tryz.results113,go_sem,e0,e1,e2,e3]) rfl ?_;exact ⟨⟨_,_,_,_⟩,rfl,HZ.out.went (by omega)⟩
  have n0:(y==0)=false:=by simpa using k0
  clear k0
  by_cases k1:y=1
  · subst k1;have HA:=hI_ (H.out.lit (.cells #[.int .i64 (-1),.int .i64 15,.int .i64 16] 3));have hrl:=H.out.r.lt;go_wp2_with fail;refine (pick_c rb _ 3 _ HA.out.r (by omega) (by omega) (by omega)).mono ?_;rintro en V1 ⟨x1,rfl,u0,u1,hr,hg⟩;obtain ⟨n1,rfl⟩:=Int.eq_ofNat_of_zero_le u0;obtain ⟨zz,hc⟩:=lit_at [-1,15,16] (by decide) hrl hg (n:=n1) (by simp;omega);replace H:=hI_ (HA.out.pick hr hg);clear hr hg HA;have HZ:=hI_ ((H.out.store 1 (.int .i64 zz)).l1.fin [.int .i64 a,.int .i64 zz,.int .i64 c,.bool wr] rfl);have hgg:w.heap.size<g3:=H.out.h.2.2;have hgn:w.heap.size≠g3:=by omega
    obtain ⟨c0,c1,c2,c3⟩:=H.out.x3.c4;obtain ⟨y0,y1,y2,y3⟩:=H.out.x3.f4;obtain ⟨d0,d1,d2,d3⟩:=H.out.x2.c4;obtain ⟨z0,z1,z2,z3⟩:=H.out.x2.f4;go_wp2_with fail;obtain ⟨F,hF⟩:∃ V,sets (V1.setCell ⟨g3,1,none⟩ (.int .i64 zz)) w.heap.size 0 [.int .i64 a,.int .i64 zz,.int .i64 c,.bool wr]=V:=⟨_,rfl⟩;rw [show (((((V1.setCell ⟨g3,1,none⟩ (.int .i64 zz)).setCell ⟨w.heap.size,0,none⟩ (.int .i64 a)).setCell ⟨w.heap.size,1,none⟩ (.int .i64 zz)).setCell ⟨w.heap.size,2,none⟩ (.int .i64 c)).setCell ⟨w.heap.size,3,none⟩ (.bool wr))=F from hF];rw [hF] at HZ;obtain ⟨e0,e1,e2,e3⟩:=HZ.out.x2.c4;refine bodyPost_ret (v:=.agg #[.int .i64 a,.int .i64 zz,.int .i64 c,.bool wr]) (by simp [results,Tryz.results113,go_sem,e0,e1,e2,e3]) rfl ?_;exact ⟨⟨_,_,_,_⟩,rfl,HZ.out.went (by omega)⟩
  have n1:(y==1)=false:=by simpa using k1
  clear k1
  by_cases k2:y=2
  · subst k2;go_wp2_with fail;refine (l91Frame_c rb _ _ H.out.r (by omega)).mono ?_;rintro en V1 ⟨f2,rfl,q2,hq2,hr,hg⟩;replace H:=hI_ (H.out.pick hr hg);clear hr hg;have HZ:=hI_ ((H.out.store 2 (.int .i64 f2)).l1.fin [.int .i64 a,.int .i64 b,.int .i64 f2,.bool wr] rfl);have hgg:w.heap.size<g3:=H.out.h.2.2;have hgn:w.heap.size≠g3:=by omega
    obtain ⟨c0,c1,c2,c3⟩:=H.out.x3.c4;obtain ⟨y0,y1,y2,y3⟩:=H.out.x3.f4;obtain ⟨d0,d1,d2,d3⟩:=H.out.x2.c4;obtain ⟨z0,z1,z2,z3⟩:=H.out.x2.f4;go_wp2_with fail;obtain ⟨F,hF⟩:∃ V,sets (V1.setCell ⟨g3,2,none⟩ (.int .i64 f2)) w.heap.size 0 [.int .i64 a,.int .i64 b,.int .i64 f2,.bool wr]=V:=⟨_,rfl⟩;rw [show (((((V1.setCell ⟨g3,2,none⟩ (.int .i64 f2)).setCell ⟨w.heap.size,0,none⟩ (.int .i64 a)).setCell ⟨w.heap.size,1,none⟩ (.int .i64 b)).setCell ⟨w.heap.size,2,none⟩ (.int .i64 f2)).setCell ⟨w.heap.size,3,none⟩ (.bool wr))=F from hF];rw [hF] at HZ;obtain ⟨e0,e1,e2,e3⟩:=HZ.out.x2.c4;refine bodyPost_ret (v:=.agg #[.int .i64 a,.int .i64 b,.int .i64 f2,.bool wr]) (by simp [results,Tryz.results113,go_sem,e0,e1,e2,e3]) rfl ?_;exact ⟨⟨_,_,_,_⟩,rfl,HZ.out.went (by omega)⟩
  have n2:(y==2)=false:=by simpa using k2
  clear k2;have HZ:=hI_ (H.out.l1.fin [.int .i64 a,.int .i64 b,.int .i64 c,.bool wr] rfl);have hgg:w.heap.size<g3:=H.out.h.2.2;have hgn:w.heap.size≠g3:=by omega
  obtain ⟨c0,c1,c2,c3⟩:=H.out.x3.c4;obtain ⟨y0,y1,y2,y3⟩:=H.out.x3.f4;obtain ⟨d0,d1,d2,d3⟩:=H.out.x2.c4;obtain ⟨z0,z1,z2,z3⟩:=H.out.x2.f4;go_wp2_with fail;obtain ⟨F,hF⟩:∃ V,sets w9 w.heap.size 0 [.int .i64 a,.int .i64 b,.int .i64 c,.bool wr]=V:=⟨_,rfl⟩;rw [show ((((w9.setCell ⟨w.heap.size,0,none⟩ (.int .i64 a)).setCell ⟨w.heap.size,1,none⟩ (.int .i64 b)).setCell ⟨w.heap.size,2,none⟩ (.int .i64 c)).setCell ⟨w.heap.size,3,none⟩ (.bool wr))=F from hF];rw [hF] at HZ;obtain ⟨e0,e1,e2,e3⟩:=HZ.out.x2.c4;refine bodyPost_ret (v:=.agg #[.int .i64 a,.int .i64 b,.int .i64 c,.bool wr]) (by simp [results,Tryz.results113,go_sem,e0,e1,e2,e3]) rfl ?_;exact ⟨⟨_,_,_,_⟩,rfl,HZ.out.went (by omega)⟩
theorem OS.keptRb {α:Type} {f:α→List Value} {sz:Nat} {e:TypeId} {w w':World} {base rb:Nat} {v:Value} {l:List α} (h:OS f sz e w base v l) (hr:rb<base) (hg:w.grownBy w' (some rb)):OS f sz e w' base v l:=by
  refine h.kept hg ?_
  cases hv:v.ownBlock with
  | none=>exact .inl rfl
  | some k =>
    refine .inr fun eq=>?_
    obtain rfl:k=rb:=by simpa using eq
    have:=(h.lt k hv).1
    omega
set_option maxHeartbeats 2000000 in
set_option maxRecDepth 100000 in
theorem CachePut_c (c:List Kx.Cached) (x:Kx.Cached) (v:Value) (w:World) (h:RCached w v c) (hl:c.length≤1000) :
    Calls Tryz.prog 112 #[v,cachedV x] w (MadeT cachedC 4 33 w (if Kx.cacheOk c&&Kx.cachedOk x then Kx.cput c x else []) [.bool (Kx.cacheOk c&&Kx.cachedOk x)]):=by
  obtain ⟨w0,hw0⟩:∃ w0,w.alloc (.cells #[.int .i64 x.env,.int .i64 x.page,.int .i64 x.frame,.bool x.write] 33)=w0:=⟨_,rfl⟩;have B0:=hI_ (show Below w.heap.size w w0 from hw0 ▸ bL_);have X0:=hI_ (show BX w0 w.heap.size 33 [.int .i64 x.env,.int .i64 x.page,.int .i64 x.frame,.bool x.write] from (hw0 ▸ BX.new w _ _:BX w0 _ _ _));have HC:=hI_ (RS.below h B0.out);have HF:=hI_ (l4Cached_c x);obtain ⟨b,hbv⟩:∃ b,(Kx.cacheOk c&&Kx.cachedOk x)=b:=⟨_,rfl⟩;rw [hbv];obtain ⟨r,hrv⟩:∃ r,(if b=true then Kx.cput c x else [])=r:=⟨_,rfl⟩;rw [hrv];have Hbv:=hI_ hbv;have Hrv:=hI_ hrv;clear hbv hrv;have HP:=hI_ (show ∀ W,RCached W v c→_ from fun W hW=>l4Put_c c x v W hW hl);unfold cachedV at HF ⊢;clear h;go_enter Tryz.func112,Tryz.ntmps112;go_wp2_with fail;clear hw0;refine (specCacheValid_c c _ _ HC.out).mono ?_;rintro e w1 ⟨rfl,hb⟩
  replace B0:=hI_ (B0.out.trans (hb.mono B0.out.size));replace X0:=hI_ (X0.out.below hb);replace HC:=hI_ (RS.below HC.out hb);clear hb;obtain ⟨k0,k1,k2,k3⟩:=X0.out.c4
  cases hv:Kx.cacheOk c with
  | false =>
    obtain rfl:b=false:=by rw [←Hbv.out,hv];rfl
    obtain rfl:[]=r:=by have:=Hrv.out;simpa using this
    clear hv;have HN:=hI_ (show OS cachedC 4 33 (w1.alloc (.cells #[] 33)) w.heap.size (.slice (some ⟨w1.heap.size,0,none⟩) 0 0) [] from OS.lit0 B0.out.size);have HB:=hI_ (B0.out.alloc B0.out.size (.cells #[] 33));go_wp2_with fail;go_ret2;exact ⟨_,rfl,HN.out,HB.out⟩
  | true =>
    have Hv:=hI_ hv;clear hv;go_wp2_with fail;refine (HF.out _).mono ?_;rintro e w2 ⟨rfl,hb⟩;replace B0:=hI_ (B0.out.trans (hb.mono B0.out.size));replace X0:=hI_ (X0.out.below hb);replace HC:=hI_ (RS.below HC.out hb);clear hb k0 k1 k2 k3;obtain ⟨k0,k1,k2,k3⟩:=X0.out.c4
    cases hv:Kx.cachedOk x with
    | false =>
      obtain rfl:b=false:=by rw [←Hbv.out,hv];simp
      obtain rfl:[]=r:=by have:=Hrv.out;simpa using this
      clear hv;have HN:=hI_ (show OS cachedC 4 33 (w2.alloc (.cells #[] 33)) w.heap.size (.slice (some ⟨w2.heap.size,0,none⟩) 0 0) [] from OS.lit0 B0.out.size);have HB:=hI_ (B0.out.alloc B0.out.size (.cells #[] 33));go_wp2_with fail;go_ret2;exact ⟨_,rfl,HN.out,HB.out⟩
    | true =>
      obtain rfl:b=true:=by rw [←Hbv.out,Hv.out,hv];rfl
      obtain rfl:Kx.cput c x=r:=by have:=Hrv.out;simpa using this
      clear hv;go_wp2_with fail;refine (HP.out _ HC.out).mono ?_;rintro e w3 ⟨u,rfl,ho,hb⟩;have HN:=hI_ (ho.mono B0.out.size);have HB:=hI_ (B0.out.trans (hb.mono B0.out.size));clear ho hb;go_wp2_with fail;go_ret2;exact ⟨_,rfl,HN.out,HB.out⟩
theorem cput_len (l:List Kx.Cached) (s:Kx.Cached):(Kx.cput l s).length≤l.length+1:=by
  unfold Kx.cput;simp only;rw [List.length_append];have:=List.length_filter_le (fun y:Kx.Cached=>y.env != s.env||y.page != s.page) l;split <;> simp <;> omega
/-- rights are drawn -/
def DrawnR (rb p:Nat) (w:World) (e:Ending) (w':World):Prop:=∃ (u:Value) (l:List Kx.Str),e=.returned u∧OS strC 1 9 w' w.heap.size u l∧(∀ s ∈ l,s.size≤5)∧Went rb p 20 w w'
/-- translations are drawn -/
def DrawnT (rb p:Nat) (w:World) (e:Ending) (w':World):Prop:=∃ (u:Value) (l:List Kx.Cached),e=.returned u∧OS cachedC 4 33 w' w.heap.size u l∧Went rb p 80 w w'
theorem rights_short {l:List Kx.Str} (h:Kx.rightsOk l=true):l.length≤6∧∀ s ∈ l,s.size≤5:=by
  have h1:=Kx.rightsOk_iff.1 h;exact ⟨h1.2.2,fun s hs=>Nat.le_trans (sane_right (h1.1 s hs)) (by decide)⟩
def lits6r:List Kx.Str:=[⟨#[97]⟩,⟨#[97,97]⟩,⟨#[97,98]⟩,⟨#[98]⟩,⟨#[98,97]⟩,⟨#[99]⟩]
set_option maxHeartbeats 4000000 in
set_option maxRecDepth 100000 in
theorem l91Rights_c (rb p:Nat) (w:World) (h:RD w rb p) (hp:p≤700000) :
    Calls Tryz.prog 67 #[.pointer (some ⟨rb,0,none⟩)] w (DrawnR rb p w):=by
  have hlt:=h.lt;have R0:=hI_ (h.keep (Below.lit (Below.refl w.heap.size w) (.cells #[] 9)));have O0:=hI_ (OS.lit0 (f:=strC) (sz:=1) (e:=9) (w:=w) (Nat.le_refl w.heap.size));have G0:=hI_ (grownBy_alloc (World.grownBy.refl w (some rb)) (.cells #[] 9));clear h;go_enter Tryz.func67,Tryz.ntmps67;go_wp2_with fail;refine (pick_c rb p 7 _ R0.out (by omega) (by omega) (by omega)).mono ?_;rintro e w1 ⟨n,rfl,n0,n1,hr,hg⟩;have R1:=hI_ hr;have O1:=hI_ (O0.out.keptRb hlt hg);have G1:=hI_ (grownBy_trans G0.out hg);clear hr hg R0 O0 G0;obtain ⟨n,rfl⟩:=Int.eq_ofNat_of_zero_le n0;go_wp2_with fail;go_loopw [3,5] (fun v i wr=>∃ (j q:Nat) (l:List Kx.Str),i=.int .i64 j∧j≤n∧q≤p+1+2*j∧Hid (Kx.rightsOk l=true)∧Hid (OS strC 1 9 wr w.heap.size v l)∧Hid (RD wr rb q)∧Hid (w.grownBy wr (some rb))) (fun _ i _=>n - (intOf i).toNat)
  case atStart=>exact ⟨0,_,[],rfl,Nat.zero_le _,by omega,by show _=_;rfl,O1,R1,G1⟩
  case round =>
    clear R1 O1 G1;obtain ⟨j,q,l,rfl,hj,hq,hok,ho,hr,hg⟩:=hrel;have hsz:=hg.out.size
    by_cases hlt2:j<n
    · have hlI:(j:Int)<(n:Int):=by omega
      go_wp2_with fail;refine (l91Right_c rb q _ hr.out (by omega)).mono ?_;rintro e w2 ⟨s,hs,rfl,q2,hq2,hr2,hg2⟩;have Hr2:=hI_ hr2;have Ho2:=hI_ (ho.out.keptRb hlt hg2);have Hg2:=hI_ (grownBy_trans hg.out hg2);have hsz2:=Hg2.out.size;obtain ⟨ok,hokv⟩:∃ b,(Kx.rightsOk l&&Kx.rightOk s&&(Kx.radd l s).2)=b:=⟨_,rfl⟩;have HC:=hI_ (specRightsAdd_c l s _ w2 Ho2.out.rs (fun x hx=>Nat.le_trans ((rights_short hok.out).2 x hx) (by decide)) (by omega))
      rw [hokv] at HC;have Hokv:=hI_ hokv;clear hr2 hg2 hs hokv;go_wp2_with fail;refine HC.out.mono ?_;rintro e w3 ⟨u,rfl,ho3,hb3⟩;have Hr3:=hI_ (Hr2.out.keep hb3);have Hg3:=hI_ (grownBy_trans Hg2.out (grown_below (rb:=rb) hb3 ⟨hb3.os,hb3.tape,hb3.output⟩));have Ho3:=hI_ (Ho2.out.below hb3);have Hu3:=hI_ (ho3.mono hsz2);clear ho3 hb3 HC
      cases ok with
      | true =>
        have h3:(Kx.rightsOk l=true∧Kx.rightOk s=true)∧(Kx.radd l s).2=true:=by have:=Hokv.out;simpa only [Bool.and_eq_true] using this
        have Hl:=hI_ (show Kx.rightsOk (Kx.radd l s).1=true from Kx.rightsOk_add h3.1.1 h3.1.2);rw [h3.1.1,h3.1.2] at Hu3;replace Hu3:=hI_ (show OS strC 1 9 w3 w.heap.size u (Kx.radd l s).1 from Hu3.out);clear h3;go_wp2_with fail;go_roundw
        case rel=>exact ⟨j+1,q2,_,by go_num,by omega,by omega,Hl,Hu3,Hr3,Hg3⟩
        case measure=>simp [intOf];omega
      | false =>
        go_wp2_with fail;go_roundw
        case rel=>exact ⟨j+1,q2,l,by go_num,by omega,by omega,hok,Ho3,Hr3,Hg3⟩
        case measure=>simp [intOf];omega
    · obtain rfl:j=n:=by omega
      go_wp2_with fail;refine (pick_c rb q 20 _ hr.out (by omega) (by omega) (by omega)).mono ?_;rintro e w2 ⟨x,rfl,x0,x1,hr2,hg2⟩;have Hr2:=hI_ hr2;have Ho2:=hI_ (ho.out.keptRb hlt hg2);have Hg2:=hI_ (grownBy_trans hg.out hg2);clear hr2 hg2 hr hg ho
      by_cases hx:x=0
      · subst hx;go_wp2_with fail;refine (l91Right_c rb _ _ Hr2.out (by omega)).mono ?_;rintro e w3 ⟨s,hs,rfl,q3,hq3,hr3,hg3⟩;have Ho3:=hI_ (Ho2.out.keptRb hlt hg3);have B3:Below w3.heap.size w3 (w3.alloc (.cells #[.string s] 9)):=bL_;have Hr3:=hI_ (hr3.keep B3);have Hg3:=hI_ (grownBy_trans (grownBy_trans Hg2.out hg3) (grown_below (rb:=rb) B3 ⟨B3.os,B3.tape,B3.output⟩));replace Ho3:=hI_ (Ho3.out.below B3);have hR:=hI_ (show RS strC 1 (w3.alloc (.cells #[.string s] 9)) (.slice (some ⟨w3.heap.size,0,none⟩) 1 1) [s] from RS.one (f:=strC) s #[.string s] rfl w3 _);have hln:=hI_ (show l.length+[s].length≤1099511627776 by have:=(rights_short hok.out).1;simp;omega);have hzz:=hI_ Hg3.out.size;have Hs:=hI_ hs;clear hr3 hg3 B3 hs
        go_wp2_with (at_builtin;refine wpList_appS tiStr rfl _ _ rfl w.heap.size _ l rfl Ho3.out _ [s] rfl hR.out hln.out hzz.out ?_;intro v4 w4 ho4 hg4 _;have Ho4:=hI_ ho4;have Hg4:=hI_ hg4;clear ho4 hg4);go_ret;refine ⟨_,_,rfl,Ho4.out,fun x hx=>?_,q3,by omega,Hr3.out.grown Hg4.out (fun k hk=>by have:=(Ho3.out.lt k hk).1;omega),grownBy_later Hg3.out Hg4.out (fun k hk=>(Ho3.out.lt k hk).1)⟩
        rcases List.mem_append.1 hx with h | h
        · exact (rights_short hok.out).2 x h
        · simp at h;subst h;exact Hs.out
      · have hxb:(x==0)=false:=by simpa using hx
        clear hx;go_wp2_with fail;refine (pick_c rb _ 20 _ Hr2.out (by omega) (by omega) (by omega)).mono ?_;rintro e w3 ⟨y,rfl,y0,y1,hr3,hg3⟩;have Hr3:=hI_ hr3;have Ho3:=hI_ (Ho2.out.keptRb hlt hg3);have Hg3:=hI_ (grownBy_trans Hg2.out hg3);clear hr3 hg3
        by_cases hy:y=0
        · subst hy;have HL:=hI_ (OS.lit (l:=lits6r) (f:=strC) (sz:=1) (e:=9) (w:=w3) (base:=w.heap.size) Hg3.out.size #[.string ⟨#[97]⟩,.string ⟨#[97,97]⟩,.string ⟨#[97,98]⟩,.string ⟨#[98]⟩,.string ⟨#[98,97]⟩,.string ⟨#[99]⟩] rfl rfl (by decide));have B3:Below w3.heap.size w3 (w3.alloc (.cells #[.string ⟨#[97]⟩,.string ⟨#[97,97]⟩,.string ⟨#[97,98]⟩,.string ⟨#[98]⟩,.string ⟨#[98,97]⟩,.string ⟨#[99]⟩] 9)):=bL_;have Hw:=hI_ (show Went rb p 20 w _ from ⟨_,by omega,Hr3.out.keep B3,grownBy_trans Hg3.out (grown_below (rb:=rb) B3 ⟨B3.os,B3.tape,B3.output⟩)⟩);clear B3;go_wp2_with fail;go_ret;exact ⟨_,lits6r,rfl,HL.out,by decide,Hw.out⟩
        · have hyb:(y==0)=false:=by simpa using hy
          go_wp2_with fail;go_ret;exact ⟨_,l,rfl,Ho3.out,(rights_short hok.out).2,_,by omega,Hr3.out,Hg3.out⟩
set_option maxHeartbeats 4000000 in
set_option maxRecDepth 100000 in
theorem l91Cache_c (rb p:Nat) (w:World) (h:RD w rb p) (hp:p≤600000) :
    Calls Tryz.prog 68 #[.pointer (some ⟨rb,0,none⟩)] w (DrawnT rb p w):=by
  have hlt:=h.lt;have R0:=hI_ (h.keep (Below.lit (Below.refl w.heap.size w) (.cells #[] 33)));have O0:=hI_ (OS.lit0 (f:=cachedC) (sz:=4) (e:=33) (w:=w) (Nat.le_refl w.heap.size));have G0:=hI_ (grownBy_alloc (World.grownBy.refl w (some rb)) (.cells #[] 33));clear h;go_enter Tryz.func68,Tryz.ntmps68;go_wp2_with fail;refine (pick_c rb p 6 _ R0.out (by omega) (by omega) (by omega)).mono ?_;rintro e w1 ⟨n,rfl,n0,n1,hr,hg⟩;have R1:=hI_ hr;have O1:=hI_ (O0.out.keptRb hlt hg);have G1:=hI_ (grownBy_trans G0.out hg);clear hr hg R0 O0 G0;obtain ⟨n,rfl⟩:=Int.eq_ofNat_of_zero_le n0;go_wp2_with fail;go_loopw [3,5] (fun v i wr=>∃ (j q:Nat) (l:List Kx.Cached),i=.int .i64 j∧j≤n∧q≤p+1+9*j∧Hid (l.length≤j)∧Hid (OS cachedC 4 33 wr w.heap.size v l)∧Hid (RD wr rb q)∧Hid (w.grownBy wr (some rb))) (fun _ i _=>n - (intOf i).toNat)
  case atStart=>exact ⟨0,_,[],rfl,Nat.zero_le _,by omega,hI_ (Nat.zero_le _),O1,R1,G1⟩
  case round =>
    clear R1 O1 G1;obtain ⟨j,q,l,rfl,hj,hq,hok,ho,hr,hg⟩:=hrel;have hsz:=hg.out.size
    by_cases hlt2:j<n
    · have hlI:(j:Int)<(n:Int):=by omega
      go_wp2_with fail;refine (l91Cached_c rb q _ hr.out (by omega)).mono ?_;rintro e w2 ⟨s,rfl,q2,hq2,hr2,hg2⟩;have Hr2:=hI_ hr2;have Ho2:=hI_ (ho.out.keptRb hlt hg2);have Hg2:=hI_ (grownBy_trans hg.out hg2);have hsz2:=Hg2.out.size;obtain ⟨ok,hokv⟩:∃ b,(Kx.cacheOk l&&Kx.cachedOk s)=b:=⟨_,rfl⟩;have HC:=hI_ (CachePut_c l s _ w2 Ho2.out.rs (by have:=hok.out;omega));rw [hokv] at HC;clear hr2 hg2 hokv;go_wp2_with fail;refine HC.out.mono ?_;rintro e w3 ⟨u,rfl,ho3,hb3⟩;have Hr3:=hI_ (Hr2.out.keep hb3);have Hg3:=hI_ (grownBy_trans Hg2.out (grown_below (rb:=rb) hb3 ⟨hb3.os,hb3.tape,hb3.output⟩));have Ho3:=hI_ (Ho2.out.below hb3);have Hu3:=hI_ (ho3.mono hsz2);clear ho3 hb3 HC
      cases ok with
      | true =>
        replace Hu3:=hI_ (show OS cachedC 4 33 w3 w.heap.size u (Kx.cput l s) from Hu3.out);have Hl:=hI_ (show (Kx.cput l s).length≤j+1 by have:=hok.out;exact Nat.le_trans (cput_len l s) (by omega));go_wp2_with fail;go_roundw
        case rel=>exact ⟨j+1,q2,_,by go_num,by omega,by omega,Hl,Hu3,Hr3,Hg3⟩
        case measure=>simp [intOf];omega
      | false =>
        have Hl:=hI_ (show l.length≤j+1 by have:=hok.out;omega);go_wp2_with fail;go_roundw
        case rel=>exact ⟨j+1,q2,l,by go_num,by omega,by omega,Hl,Ho3,Hr3,Hg3⟩
        case measure=>simp [intOf];omega
    · obtain rfl:j=n:=by omega
      go_wp2_with fail;refine (pick_c rb q 20 _ hr.out (by omega) (by omega) (by omega)).mono ?_;rintro e w2 ⟨x,rfl,x0,x1,hr2,hg2⟩;have Hr2:=hI_ hr2;have Ho2:=hI_ (ho.out.keptRb hlt hg2);have Hg2:=hI_ (grownBy_trans hg.out hg2);have hzz2:=hI_ Hg2.out.size;clear hr2 hg2 hr hg ho
      by_cases hx:x=0
      · subst hx;go_wp2_with fail;refine (l91Cached_c rb _ _ Hr2.out (by omega)).mono ?_;rintro e w3 ⟨s,rfl,q3,hq3,hr3,hg3⟩;have Ho3:=hI_ (Ho2.out.keptRb hlt hg3);have B3:Below w3.heap.size w3 (w3.alloc (.cells #[.int .i64 s.env,.int .i64 s.page,.int .i64 s.frame,.bool s.write] 33)):=bL_;have Hr3:=hI_ (hr3.keep B3);have Hg3:=hI_ (grownBy_trans (grownBy_trans Hg2.out hg3) (grown_below (rb:=rb) B3 ⟨B3.os,B3.tape,B3.output⟩));replace Ho3:=hI_ (Ho3.out.below B3);have hR:=hI_ (show RS cachedC 4 (w3.alloc (.cells #[.int .i64 s.env,.int .i64 s.page,.int .i64 s.frame,.bool s.write] 33)) (.slice (some ⟨w3.heap.size,0,none⟩) 1 1) [s] from RS.one (f:=cachedC) s #[.int .i64 s.env,.int .i64 s.page,.int .i64 s.frame,.bool s.write] rfl w3 _);have hln:=hI_ (show l.length+[s].length≤1099511627776 by have:=hok.out;simp;omega);have hzz:=hI_ Hg3.out.size;clear hr3 hg3 B3;unfold cachedV
        go_wp2_with (at_builtin;refine wpList_appS tiCached rfl _ _ rfl w.heap.size _ l rfl Ho3.out _ [s] rfl hR.out hln.out hzz.out ?_;intro v4 w4 ho4 hg4 _;have Ho4:=hI_ ho4;have Hg4:=hI_ hg4;clear ho4 hg4);go_ret;exact ⟨_,_,rfl,Ho4.out,q3,by omega,Hr3.out.grown Hg4.out (fun k hk=>by have:=(Ho3.out.lt k hk).1;omega),grownBy_later Hg3.out Hg4.out (fun k hk=>(Ho3.out.lt k hk).1)⟩
      · have hxb:(x==0)=false:=by simpa using hx
        clear hx
        by_cases hy:x=1
        · subst hy;have hln:=hI_ (show l.length+l.length≤1099511627776 by have:=hok.out;omega);go_wp2_with (at_builtin;refine wpList_appS tiCached rfl _ _ rfl w.heap.size _ l rfl Ho2.out _ l rfl Ho2.out.rs hln.out hzz2.out ?_;intro v4 w4 ho4 hg4 _;have Ho4:=hI_ ho4;have Hg4:=hI_ hg4;clear ho4 hg4);go_ret;exact ⟨_,_,rfl,Ho4.out,_,by omega,Hr2.out.grown Hg4.out (fun k hk=>by have:=(Ho2.out.lt k hk).1;omega),grownBy_later Hg2.out Hg4.out (fun k hk=>(Ho2.out.lt k hk).1)⟩
        · have hyb:(x==1)=false:=by simpa using hy
          go_wp2_with fail;go_ret;exact ⟨_,l,rfl,Ho2.out,_,by omega,Hr2.out,Hg2.out⟩
end Go.Proofs.YtenebmeaoidnoaaGreatDoor
