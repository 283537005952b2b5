/- Contracts of draws: DrawKernelReach. (printed by kd23.py) -/
import Derived.Test.YtenebmeaoidnoaaGreatDoorKDf
namespace Go.Proofs.YtenebmeaoidnoaaGreatDoor
open Go.RowKit
section
variable {P:Program} {ops:Array Oper} {Q:Exit→Act→World→Prop} {md:Region.Mode} {S S':World→Prop} {xs:List Nat}
theorem wpAnyL_mono (hS:∀ w,S' w→S w):∀ (fuel:Nat) (listed:Array Bool) (a:Act) (w:World),wpAnyL P md ops Q S' xs fuel listed a w→wpAnyL P md ops Q S xs fuel listed a w
  | 0,_,_,_,h=>h
  | fuel+1,_,_,_,h=>⟨h.1,fun i hi=>wpOp_mono (fun a' w' h'=>⟨h'.1.imp id (hS w'),wpAnyL_mono hS fuel _ a' w' h'.2⟩) (h.2 i hi)⟩
end
structure LD (w W:World) (rb q g2 g5:Nat) (k:Kx.Kernel) (v0 v1 v2 v3:Value):Prop where
  b:Below w.heap.size w W
  r:RD W rb q
  x2:BX W g2 28 [.slice none 0 0,.slice none 0 0,.slice none 0 0,.slice none 0 0]
  x5:BX W g5 28 [v0,v1,v2,v3]
  f:∃ base hi,rb<base∧hi≤g5∧hi≤W.heap.size∧RKr W base hi v0 v1 v2 v3 k
  s:SaneK k
  h:w.heap.size≤g2∧g2<rb∧rb<g5
section
variable {w W V:World} {rb q q' g2 g5:Nat} {k:Kx.Kernel} {v0 v1 v2 v3:Value}
theorem LD.pick (h:LD w W rb q g2 g5 k v0 v1 v2 v3) (hr:RD V rb q') (hg:W.grownBy V (some rb)):LD w V rb q' g2 g5 k v0 v1 v2 v3:=by
  obtain ⟨base,hi,h2,h3,h4,hk⟩:=h.f;have hh:=h.h;exact ⟨h.b.grown hg h.b.size (fun k hk=>by cases hk;omega),hr,(hg.block g2 h.x2.lt (by simp;omega)).trans h.x2,(hg.block g5 h.x5.lt (by simp;omega)).trans h.x5,⟨base,hi,h2,h3,Nat.le_trans h4 hg.size,hk.to hg.size (fun j a b=>hg.block j (by omega) (by simp;omega))⟩,h.s,h.h⟩
theorem LD.below (h:LD w W rb q g2 g5 k v0 v1 v2 v3) (hb:Below W.heap.size W V):LD w V rb q g2 g5 k v0 v1 v2 v3:=
  h.pick (h.r.keep hb) (grown_below hb ⟨hb.os,hb.tape,hb.output⟩)
theorem LD.rk (h:LD w W rb q g2 g5 k v0 v1 v2 v3):RK W v0 v1 v2 v3 k:=by
  obtain ⟨base,hi,h2,h3,h4,hk⟩:=h.f;exact hk W nR_ (fun _ _ _=>rfl)
theorem LD.fin (h:LD w W rb q g2 g5 k v0 v1 v2 v3):Below w.heap.size w (sets W g2 0 [v0,v1,v2,v3])∧BX (sets W g2 0 [v0,v1,v2,v3]) g2 28 [v0,v1,v2,v3]∧RK (sets W g2 0 [v0,v1,v2,v3]) v0 v1 v2 v3 k∧BX (sets W g2 0 [v0,v1,v2,v3]) g5 28 [v0,v1,v2,v3]:=by
  obtain ⟨base,hi,h2,h3,h4,hk⟩:=h.f;have hh:=h.h;exact ⟨below_sets hh.1 _ 0 h.b,h.x2.sets _ rfl,hk _ (by rw [sets_size];exact Nat.le_refl _) (fun j a _=>sets_block _ _ (by omega) _ _),BX.setsO (by omega) _ 0 h.x5⟩
end
def DrewM (w:World) (P:List Value→Prop) (en:Ending) (w':World):Prop:=∃ (k:Kx.Kernel) (um ui ue uc:Value) (more:List Value),en=.returned (.tuple (.agg #[um,ui,ue,uc] :: more).toArray)∧P more∧SaneK k∧RK w' um ui ue uc k∧Below w.heap.size w w'
def OneI (l:List Value):Prop:=∃ x:Int,l=[.int .i64 x]
set_option maxHeartbeats 4000000 in
set_option maxRecDepth 100000 in
theorem DrawKernelReach_c (v:Value) (n:Nat) (w:World) (h:RB w v n):Calls Tryz.prog 23 #[v] w (DrewM w OneI):=by
  obtain ⟨w1,hw1⟩:∃ w1,w.alloc (.cells #[.slice none 0 0,.slice none 0 0,.slice none 0 0,.slice none 0 0] 28)=w1:=⟨_,rfl⟩;have B1:=hI_ (show Below w.heap.size w w1 from hw1 ▸ bL_);have s1:w.heap.size<w1.heap.size:=by rw [←hw1];simp
  have X2:=hI_ (show BX w1 w.heap.size 28 [.slice none 0 0,.slice none 0 0,.slice none 0 0,.slice none 0 0] from (hw1 ▸ BX.new w _ _:BX w1 _ _ _));have HB:=hI_ (h.below B1.out);clear h;go_enter Tryz.func23,Tryz.ntmps23;go_wp2_with fail;clear hw1;refine (l6Open_c _ _ _ HB.out).mono ?_;rintro en w2 ⟨rb,rfl,hrb,hr,hb⟩;have hz2:=hb.size;have B2:=hI_ (B1.out.trans (hb.mono B1.out.size));have HX:=hI_ (X2.out.below hb);have Hr:=hI_ hr;have hrl:=hr.lt;clear hr hb X2 HB B1;go_wp2_with fail;refine (l92Any_c rb 0 _ Hr.out (by omega)).mono ?_;rintro en w3 ⟨k,_,_,_,_,base,rfl,⟨⟨a0,n0,m0,rfl⟩,⟨a1,n1,m1,rfl⟩,⟨a2,n2,m2,rfl⟩,⟨a3,n3,m3,rfl⟩⟩,hs,hbase,hko,q,hq,hr2,hg⟩;have hz3:=hg.size;obtain ⟨w4,hw4⟩:∃ V,w3.alloc (.cells #[.slice a0 n0 m0,.slice a1 n1 m1,.slice a2 n2 m2,.slice a3 n3 m3] 28)=V:=⟨_,rfl⟩;have B4:Below w3.heap.size w3 w4:=hw4 ▸ bL_
  have X3:BX w3 w.heap.size 28 [.slice none 0 0,.slice none 0 0,.slice none 0 0,.slice none 0 0]:=(hg.block w.heap.size HX.out.lt (by simp;omega)).trans HX.out;have B3:=B2.out.grown hg (show w.heap.size≤w2.heap.size by omega) (fun k hk=>by cases hk;omega);have H:=hI_ (show LD w w4 rb q w.heap.size w3.heap.size k (.slice a0 n0 m0) (.slice a1 n1 m1) (.slice a2 n2 m2) (.slice a3 n3 m3) from
    ⟨B3.trans (B4.mono B3.size),hr2.keep B4,X3.below B4,hw4 ▸ BX.new w3 _ _,⟨base,w3.heap.size,by omega,Nat.le_refl _,B4.size,hko.r.to B4.size (fun j _ b=>B4.block j b)⟩,hs,by omega⟩)
  obtain ⟨g5,hg5⟩:∃ g,w3.heap.size=g:=⟨_,rfl⟩;rw [hg5] at H;clear hs hko hr2 hg B3 B4 X3 hbase HX B2 Hr;go_wp2_with fail
  try rw [hw4]
  try rw [hg5]
  clear hw4 hg5;refine (pick_c rb _ 16 _ H.out.r (by omega) (by omega) (by omega)).mono ?_;rintro en w5 ⟨x,rfl,x0,x1,hr,hg⟩;replace H:=hI_ (H.out.pick hr hg);clear hr hg;obtain ⟨d,hd⟩:∃ d,w5.drew=d:=⟨_,rfl⟩;have Bd:Below w5.heap.size w5 d:=hd ▸ Below.drewB bR_;have Hd:=hI_ hd;replace H:=hI_ (H.out.below Bd);clear hd Bd
  by_cases hx:x=0
  · subst hx;go_wp2_with fail;refine wpL (S:=(fun U:World=>U.cell? ⟨g5,0,none⟩=some (.slice a0 n0 m0)∧U.cell? ⟨g5,1,none⟩=some (.slice a1 n1 m1)∧U.cell? ⟨g5,2,none⟩=some (.slice a2 n2 m2)∧U.cell? ⟨g5,3,none⟩=some (.slice a3 n3 m3))) (xs:=[]) (by kernel_rfl) (by rw [Hd.out];exact H.out.x5.c4) (fun hHeld=>?_)
    rw [Hd.out];rw [Hd.out] at hHeld;clear Hd;refine tL 0 ?_;refine tP 2 ?_;refine do2L 1 3 (by kernel_rfl) rfl rfl (fun K hK=>?dA13) (fun K hK=>?dB13)
    case' dA13 =>
      rw [if_pos (by rfl)];go_simp;have H1:=hI_ (H.out.below (Below.lit (Below.refl d.heap.size d) (.cells #[.int .i64 (-1),.int .i64 3] 3)));have hrl5:=H.out.r.lt;refine hK.out _ _ ?_ (fun hHeld=>?_)
      · exact H1.out.x5.c4
      clear hK K;refine nL ?_;refine doL 3 (by kernel_rfl) rfl (fun K hK=>?_);rw [if_pos (by rfl)];go_simp;go_at_call 55;refine (pick_c rb _ 2 _ H1.out.r (by omega) (by omega) (by omega)).mono ?_;rintro en U ⟨y,rfl,y0,y1,hr,hg⟩;have H2:=hI_ (H1.out.pick hr hg);obtain ⟨n,rfl⟩:=Int.eq_ofNat_of_zero_le y0;obtain ⟨zz,hc⟩:=lit_at [-1,3] (by decide) hrl5 hg (n:=n) (by simp;omega);obtain ⟨gl,hgl⟩:∃ g,d.heap.size=g:=⟨_,rfl⟩;have hglw:w.heap.size<gl:=by rw [←hgl];exact H.out.x2.lt
      rw [hgl] at hc ⊢;clear hr hg hgl;refine hK.out _ _ ?_ (fun hHeld=>?_)
      · exact H2.out.x5.c4
      clear hK K;refine nL ?_
    case' dB13 =>
      rw [if_pos (by rfl)];go_simp;go_at_call 55;refine (pick_c rb _ 2 _ H.out.r (by omega) (by omega) (by omega)).mono ?_;rintro en V1 ⟨y,rfl,y0,y1,hr,hg⟩;have H1:=hI_ (H.out.pick hr hg);obtain ⟨n,rfl⟩:=Int.eq_ofNat_of_zero_le y0;clear hr hg;refine hK.out _ _ ?_ (fun hHeld=>?_)
      · exact H1.out.x5.c4
      clear hK K;refine nL ?_;refine do2L 1 6 (by kernel_rfl) rfl rfl (fun K hK=>?dA16) (fun K hK=>?dB16)
      case' dA16 =>
        rw [if_pos (by rfl)];go_simp;obtain ⟨zz,hc⟩:=lit_at (V:=V1.alloc (.cells #[.int .i64 (-1),.int .i64 3] 3)) [-1,3] (by decide) (show rb<V1.heap.size from H1.out.r.lt) (World.grownBy.refl _ _) (n:=n) (by simp;omega);obtain ⟨gl,hgl⟩:∃ g,V1.heap.size=g:=⟨_,rfl⟩;rw [hgl] at hc ⊢;obtain ⟨U,hU⟩:∃ V,V1.alloc (.cells #[.int .i64 (-1),.int .i64 3] 3)=V:=⟨_,rfl⟩;rw [hU] at hc
        try rw [hU]
        have hglw:w.heap.size<gl:=by rw [←hgl];exact H1.out.x2.lt
        have H2:=hI_ (show LD w U rb _ w.heap.size g5 k (.slice a0 n0 m0) (.slice a1 n1 m1) (.slice a2 n2 m2) (.slice a3 n3 m3) from hU ▸ H1.out.below (bL_));clear hU hgl;refine hK.out _ _ ?_ (fun hHeld=>?_)
        · exact H2.out.x5.c4
        clear hK K;refine nL ?_
      case dB16 =>
        obtain ⟨r0,r1,r2,r3⟩:=H1.out.x2.c4;obtain ⟨fr0,fr1,fr2,fr3⟩:=H1.out.x2.f4;rw [if_pos (by rfl)];go_simp;obtain ⟨BF0,XF0,KF0,XG0⟩:=H1.out.fin;obtain ⟨F,hF⟩:∃ V,sets V1 w.heap.size 0 [.slice a0 n0 m0,.slice a1 n1 m1,.slice a2 n2 m2,.slice a3 n3 m3]=V:=⟨_,rfl⟩;rw [show ((((V1.setCell ⟨w.heap.size,0,none⟩ (.slice a0 n0 m0)).setCell ⟨w.heap.size,1,none⟩ (.slice a1 n1 m1)).setCell ⟨w.heap.size,2,none⟩ (.slice a2 n2 m2)).setCell ⟨w.heap.size,3,none⟩ (.slice a3 n3 m3))=F from hF];have hFz:V1.heap.size=F.heap.size:=by rw [←hF,sets_size]
        rw [hF] at BF0 XF0 KF0 XG0;have BF:=hI_ BF0;have XF:=hI_ XF0;have KF:=hI_ KF0;have X5F:=hI_ XG0;have HsF:=hI_ H1.out.s;clear hF r0 r1 r2 r3 fr0 fr1 fr2 fr3 BF0 XF0 KF0 XG0;refine hK.out _ _ ?_ (fun hHeld=>?_)
        · exact ⟨X5F.out.cell 0,X5F.out.cell 1,X5F.out.cell 2,X5F.out.cell 3⟩
        clear hK K;refine nL ?_;refine doL 1 (by kernel_rfl) rfl (fun K hK=>?_);rw [if_pos (by rfl)];go_simp;obtain ⟨zz,hc⟩:=lit_at (V:=F.alloc (.cells #[.int .i64 (-1),.int .i64 3] 3)) [-1,3] (by decide) (show rb<F.heap.size from by have:=H1.out.r.lt;omega) (World.grownBy.refl _ _) (n:=n) (by simp;omega);obtain ⟨gl,hgl⟩:∃ g,F.heap.size=g:=⟨_,rfl⟩;rw [hgl] at hc ⊢;obtain ⟨U,hU⟩:∃ V,F.alloc (.cells #[.int .i64 (-1),.int .i64 3] 3)=V:=⟨_,rfl⟩;rw [hU] at hc
        try rw [hU]
        have HU:Below F.heap.size F U:=hU ▸ bL_;replace BF:=hI_ (BF.out.trans (HU.mono BF.out.size));replace XF:=hI_ (XF.out.below HU);replace KF:=hI_ (KF.out.below HU);replace X5F:=hI_ (X5F.out.below HU);clear hU hgl HU;refine hK.out _ _ ?_ (fun hHeld=>?_)
        · exact ⟨X5F.out.cell 0,X5F.out.cell 1,X5F.out.cell 2,X5F.out.cell 3⟩
        clear hK K;refine nL ?_;refine wpAnyL_mono (S':=(fun U:World=>U.cell? ⟨g5,0,none⟩=some (.slice a0 n0 m0)∧U.cell? ⟨g5,1,none⟩=some (.slice a1 n1 m1)∧U.cell? ⟨g5,2,none⟩=some (.slice a2 n2 m2)∧U.cell? ⟨g5,3,none⟩=some (.slice a3 n3 m3)∧U.cell? ⟨gl,n,none⟩=some (.int .i64 zz))) (fun _ h=>⟨h.1,h.2.1,h.2.2.1,h.2.2.2.1⟩) _ _ _ _ ?_
        replace hHeld:=And.intro (X5F.out.cell 0) (And.intro (X5F.out.cell 1) (And.intro (X5F.out.cell 2) (And.intro (X5F.out.cell 3) hc)));refine tP 4 ?_;refine tL 5 ?_;refine tP 7 ?_;refine doneL (by kernel_rfl) ?_ _;go_wp2_with fail;obtain ⟨e0,e1,e2,e3⟩:=XF.out.c4;refine bodyPost_ret (v:=.tuple #[.agg #[.slice a0 n0 m0,.slice a1 n1 m1,.slice a2 n2 m2,.slice a3 n3 m3],.int .i64 zz]) (by simp [results,Tryz.results23,go_sem,e0,e1,e2,e3]) rfl ?_;exact ⟨k,_,_,_,_,[.int .i64 zz],rfl,⟨_,rfl⟩,HsF.out,KF.out,BF.out⟩
    all_goals
      refine wpAnyL_mono (S':=(fun U:World=>U.cell? ⟨g5,0,none⟩=some (.slice a0 n0 m0)∧U.cell? ⟨g5,1,none⟩=some (.slice a1 n1 m1)∧U.cell? ⟨g5,2,none⟩=some (.slice a2 n2 m2)∧U.cell? ⟨g5,3,none⟩=some (.slice a3 n3 m3)∧U.cell? ⟨gl,n,none⟩=some (.int .i64 zz))) (fun _ h=>⟨h.1,h.2.1,h.2.2.1,h.2.2.2.1⟩) _ _ _ _ ?_
      replace hHeld:=And.intro (H2.out.x5.cell 0) (And.intro (H2.out.x5.cell 1) (And.intro (H2.out.x5.cell 2) (And.intro (H2.out.x5.cell 3) hc)));refine tP 4 ?_;refine tL 5 ?_;refine doL 6 (by kernel_rfl) rfl (fun K hK=>?_);obtain ⟨r0,r1,r2,r3⟩:=H2.out.x2.c4;obtain ⟨fr0,fr1,fr2,fr3⟩:=H2.out.x2.f4;rw [if_pos (by rfl)];go_simp;obtain ⟨BF0,XF0,KF0,XG0⟩:=H2.out.fin;obtain ⟨F,hF⟩:∃ V,sets U w.heap.size 0 [.slice a0 n0 m0,.slice a1 n1 m1,.slice a2 n2 m2,.slice a3 n3 m3]=V:=⟨_,rfl⟩;rw [show ((((U.setCell ⟨w.heap.size,0,none⟩ (.slice a0 n0 m0)).setCell ⟨w.heap.size,1,none⟩ (.slice a1 n1 m1)).setCell ⟨w.heap.size,2,none⟩ (.slice a2 n2 m2)).setCell ⟨w.heap.size,3,none⟩ (.slice a3 n3 m3))=F from hF];have hFz:U.heap.size=F.heap.size:=by rw [←hF,sets_size]
      rw [hF] at BF0 XF0 KF0 XG0;have hcF:F.cell? ⟨gl,n,none⟩=some (.int .i64 zz):=hF ▸ (World.cell?_of_block (sets_block _ _ (Nat.ne_of_gt hglw) 0 U)).trans hc;have BF:=hI_ BF0;have XF:=hI_ XF0;have KF:=hI_ KF0;have X5F:=hI_ XG0;have HsF:=hI_ H2.out.s;clear hF r0 r1 r2 r3 fr0 fr1 fr2 fr3 BF0 XF0 KF0 XG0;refine hK.out _ _ ?_ (fun hHeld=>?_)
      · exact ⟨X5F.out.cell 0,X5F.out.cell 1,X5F.out.cell 2,X5F.out.cell 3,hcF⟩
      clear hK K;refine nL ?_;refine tP 7 ?_;refine doneL (by kernel_rfl) ?_ _;go_wp2_with fail;obtain ⟨e0,e1,e2,e3⟩:=XF.out.c4;refine bodyPost_ret (v:=.tuple #[.agg #[.slice a0 n0 m0,.slice a1 n1 m1,.slice a2 n2 m2,.slice a3 n3 m3],.int .i64 zz]) (by simp [results,Tryz.results23,go_sem,e0,e1,e2,e3]) rfl ?_;exact ⟨k,_,_,_,_,[.int .i64 zz],rfl,⟨_,rfl⟩,HsF.out,KF.out,BF.out⟩
  have hxb:(x==0)=false:=by simpa using hx
  clear hx;go_wp2_with fail;refine wpL (S:=(fun U:World=>U.cell? ⟨g5,0,none⟩=some (.slice a0 n0 m0)∧U.cell? ⟨g5,1,none⟩=some (.slice a1 n1 m1)∧U.cell? ⟨g5,2,none⟩=some (.slice a2 n2 m2)∧U.cell? ⟨g5,3,none⟩=some (.slice a3 n3 m3))) (xs:=[]) (by kernel_rfl) (by rw [Hd.out];exact H.out.x5.c4) (fun hHeld=>?_)
  rw [Hd.out];rw [Hd.out] at hHeld;clear Hd;refine tL 0 ?_;refine tP 1 ?_;refine tP 3 ?_;refine doL 2 (by kernel_rfl) rfl (fun K hK=>?_);rw [if_pos (by rfl)];go_simp;go_at_call 55;refine (pick_c rb _ 2 _ H.out.r (by omega) (by omega) (by omega)).mono ?_;rintro en V1 ⟨y,rfl,y0,y1,hr,hg⟩;have H1:=hI_ (H.out.pick hr hg);clear hr hg;refine hK.out _ _ ?_ (fun hHeld=>?_)
  · exact H1.out.x5.c4
  clear hK K;refine nL ?_;refine doL 4 (by kernel_rfl) rfl (fun K hK=>?_);rw [if_pos (by rfl)];go_simp;go_at_call 55;refine (pick_c rb _ 3 _ H1.out.r (by omega) (by omega) (by omega)).mono ?_;rintro en V2 ⟨z,rfl,z0,z1,hr,hg⟩;have H2:=hI_ (H1.out.pick hr hg);clear hr hg;refine hK.out _ _ ?_ (fun hHeld=>?_)
  · exact H2.out.x5.c4
  clear hK K;refine nL ?_;obtain ⟨mz,hmz⟩:∃ m:Int,IntKind.i64.wrap (y*z)=m:=⟨_,rfl⟩;refine tP 5 ?_;clear hmz;refine doL 6 (by kernel_rfl) rfl (fun K hK=>?_);obtain ⟨r0,r1,r2,r3⟩:=H2.out.x2.c4;obtain ⟨fr0,fr1,fr2,fr3⟩:=H2.out.x2.f4;rw [if_pos (by rfl)];go_simp;obtain ⟨BF0,XF0,KF0,XG0⟩:=H2.out.fin;obtain ⟨F,hF⟩:∃ V,sets V2 w.heap.size 0 [.slice a0 n0 m0,.slice a1 n1 m1,.slice a2 n2 m2,.slice a3 n3 m3]=V:=⟨_,rfl⟩;rw [show ((((V2.setCell ⟨w.heap.size,0,none⟩ (.slice a0 n0 m0)).setCell ⟨w.heap.size,1,none⟩ (.slice a1 n1 m1)).setCell ⟨w.heap.size,2,none⟩ (.slice a2 n2 m2)).setCell ⟨w.heap.size,3,none⟩ (.slice a3 n3 m3))=F from hF];have hFz:V2.heap.size=F.heap.size:=by rw [←hF,sets_size]
  rw [hF] at BF0 XF0 KF0 XG0;have BF:=hI_ BF0;have XF:=hI_ XF0;have KF:=hI_ KF0;have X5F:=hI_ XG0;have HsF:=hI_ H2.out.s;clear hF r0 r1 r2 r3 fr0 fr1 fr2 fr3 BF0 XF0 KF0 XG0;refine hK.out _ _ ?_ (fun hHeld=>?_)
  · exact ⟨X5F.out.cell 0,X5F.out.cell 1,X5F.out.cell 2,X5F.out.cell 3⟩
  clear hK K;refine nL ?_;refine tP 7 ?_;refine doneL (by kernel_rfl) ?_ _;go_wp2_with fail;obtain ⟨e0,e1,e2,e3⟩:=XF.out.c4;refine bodyPost_ret (v:=.tuple #[.agg #[.slice a0 n0 m0,.slice a1 n1 m1,.slice a2 n2 m2,.slice a3 n3 m3],.int .i64 mz]) (by simp [results,Tryz.results23,go_sem,e0,e1,e2,e3]) rfl ?_;exact ⟨k,_,_,_,_,[.int .i64 mz],rfl,⟨_,rfl⟩,HsF.out,KF.out,BF.out⟩
end Go.Proofs.YtenebmeaoidnoaaGreatDoor
