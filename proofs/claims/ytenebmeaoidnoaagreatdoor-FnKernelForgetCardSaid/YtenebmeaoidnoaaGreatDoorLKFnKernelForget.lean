/- The law FnKernelForget: the cache may be forgotten. (printed by kl.py) -/
import Derived.Test.YtenebmeaoidnoaaGreatDoorKS
import Derived.Test.YtenebmeaoidnoaaGreatDoorKR
import Derived.Test.YtenebmeaoidnoaaGreatDoorKY
namespace Go.Proofs.YtenebmeaoidnoaaGreatDoor
open Go.RowKit
theorem forget_ok {k:Kx.Kernel} (h:Kx.kernelOk k=true) {c:List Kx.Cached} (hs:c.Sublist k.cache):Kx.kernelOk { k with cache:=c }=true:=by
  unfold Kx.kernelOk at h ⊢;simp only [Bool.and_eq_true] at h ⊢;obtain ⟨⟨⟨⟨⟨⟨h1,h2⟩,h3⟩,h4⟩,h5⟩,h6⟩,h7⟩:=h;refine ⟨⟨⟨⟨⟨⟨h1,h2⟩,?_⟩,h4⟩,h5⟩,h6⟩,?_⟩
  · obtain ⟨a,b,d⟩:=Kx.cacheOk_iff.1 h3;exact Kx.cacheOk_iff.2 ⟨fun x hx=>a x (hs.subset hx),b.sublist hs,Nat.le_trans hs.length_le d⟩
  · unfold Kx.cacheTrue at h7 ⊢;exact List.all_eq_true.2 fun x hx=>List.all_eq_true.1 h7 x (hs.subset hx)
theorem take_drop_sub {α:Type} (l:List α) (i:Nat):(l.take i ++ l.drop (i+1)).Sublist l:=by
  rw [←List.eraseIdx_eq_take_drop_succ];exact List.eraseIdx_sublist _ _
theorem rcached_nil (w:World) (g:Nat):RCached w (.slice (some ⟨g,0,none⟩) 0 0) []:=⟨by simp,.inl ⟨rfl,_,_,rfl,by decide,by simp⟩⟩
set_option maxHeartbeats 8000000 in
set_option maxRecDepth 100000 in
theorem FnKernelForget_c (a:Option Addr) (len0 cap0:Nat) (z0:List Int) (b:Option Addr) (len1 cap1:Nat) (z1:List Int) (w:World) (h0:IsRow .u8 w a len0 cap0 z0) (_h1:IsRow .u8 w b len1 cap1 z1) :
    Calls Tryz.prog 3 #[.slice a len0 cap0,.slice b len1 cap1] w (YesB w):=by
  by_cases hl0:len0≤1048576
  · have hI0:¬ (1048576:Int)<(len0:Int):=by omega
    by_cases hl1:len1≤1048576
    · have hI1:¬ (1048576:Int)<(len1:Int):=by omega
      have Hr:=hI_ (IsRow.rb h0);clear h0;go_enter Tryz.func3,Tryz.ntmps3;go_wp2_with fail;clear hI0 hI1;refine (DrawKernelValid_c _ _ _ Hr.out).mono ?_;rintro e w1 ⟨k,v0,v1,v2,v3,rfl,_,hs,hk,hb⟩;obtain ⟨_,a0,m0,rfl,_,_⟩:=hk.m.len;obtain ⟨a1,m1,rfl,_,_⟩:=RS.val hk.i;obtain ⟨_,a2,m2,rfl,_,_⟩:=hk.e.len;obtain ⟨a3,m3,rfl,_,_⟩:=RS.val hk.c;obtain ⟨w2,hw2⟩:∃ V,w1.alloc (.cells #[.slice a0 k.mem.length m0,.slice a1 k.infos.length m1,.slice a2 k.envs.length m2,.slice a3 k.cache.length m3] 28)=V:=⟨_,rfl⟩;obtain ⟨g,hg⟩:∃ g,w1.heap.size=g:=⟨_,rfl⟩;have H:=hI_ (show LS w w2 g k (.slice a0 k.mem.length m0) (.slice a1 k.infos.length m1) (.slice a2 k.envs.length m2) (.slice a3 k.cache.length m3) from LS.start hs hk hb hw2 hg);have Hg:=hI_ hg;clear hs hk hb Hg;obtain ⟨c0,c1,c2,c3⟩:=H.out.x.c4;go_wp2_with fail;clear c0 c1 c2 c3 hw2 hg
      refine (implKernelValid_c k _ _ _ _ _ H.out.r H.out.s).mono ?_;rintro e w3 ⟨rfl,hb⟩;replace H:=hI_ (H.out.go hb);clear hb Hr;obtain ⟨c0,c1,c2,c3⟩:=H.out.x.c4;go_wp2_with fail;clear c0 c1 c2 c3;refine (specKernelValid_c k _ _ _ _ _ H.out.r H.out.s).mono ?_;rintro e w4 ⟨rfl,hb⟩;replace H:=hI_ (H.out.go hb);clear hb
      cases hok:Kx.kernelOk k with
      | false =>
        clear hok;go_wp2_with fail;go_ret;exact ⟨rfl,H.out.b⟩
      | true =>
        have Hok:=hI_ hok;clear hok;obtain ⟨hmo,hio,h12,hco,h3,hx2⟩:=kernelOk_parts Hok.out;have Hok0:=hI_ (forget_ok Hok.out (List.nil_sublist k.cache));have Hl4:=hI_ (Kx.cacheOk_iff.1 hco).2.2;clear hmo hio h12 hco h3 hx2;have H4:=hI_ H.out;obtain ⟨w5,hw5⟩:∃ V,w4.alloc (.cells #[.slice a0 k.mem.length m0,.slice a1 k.infos.length m1,.slice a2 k.envs.length m2,.slice a3 k.cache.length m3] 28)=V:=⟨_,rfl⟩;obtain ⟨gx,hgx⟩:∃ g,w4.heap.size=g:=⟨_,rfl⟩;obtain ⟨w6,hw6⟩:∃ V,w5.alloc (.cells #[] 33)=V:=⟨_,rfl⟩;obtain ⟨gs,hgs⟩:∃ g,w5.heap.size=g:=⟨_,rfl⟩;obtain ⟨w7,hw7⟩:∃ V,w6.setCell ⟨gx,3,none⟩ (.slice (some ⟨gs,0,none⟩) 0 0)=V:=⟨_,rfl⟩;obtain ⟨w8,hw8⟩:∃ V,w7.alloc (.cells #[.slice a0 k.mem.length m0,.slice a1 k.infos.length m1,.slice a2 k.envs.length m2,.slice a3 k.cache.length m3] 28)=V:=⟨_,rfl⟩;obtain ⟨gy,hgy⟩:∃ g,w7.heap.size=g:=⟨_,rfl⟩;have B5:Below w4.heap.size w4 w5:=hw5 ▸ bL_
        have B6:Below w5.heap.size w5 w6:=hw6 ▸ bL_;have s5:w4.heap.size<w5.heap.size:=by rw [←hw5];simp
        have s7:w7.heap.size=w6.heap.size:=by rw [←hw7];simp [World.setCell]
        have B46:Below w4.heap.size w4 w6:=B5.trans (B6.mono B5.size);have B47:Below w4.heap.size w4 w7:=hw7 ▸ B46.setCell (p:=⟨gx,3,none⟩) (by show w4.heap.size≤gx;omega) _;have B8:Below w7.heap.size w7 w8:=hw8 ▸ bL_;have Hb48:=hI_ (show Below w4.heap.size w4 w8 from B47.trans (B8.mono B47.size));have X5:BX w5 gx 28 [.slice a0 k.mem.length m0,.slice a1 k.infos.length m1,.slice a2 k.envs.length m2,.slice a3 k.cache.length m3]:=hgx ▸ (hw5 ▸ BX.new w4 _ _:BX w5 w4.heap.size _ _);have X6:=X5.below B6;have HX:=hI_ (show BX w8 gx 28 [.slice a0 k.mem.length m0,.slice a1 k.infos.length m1,.slice a2 k.envs.length m2,.slice (some ⟨gs,0,none⟩) 0 0] from BX.below (show BX w7 gx 28 [.slice a0 k.mem.length m0,.slice a1 k.infos.length m1,.slice a2 k.envs.length m2,.slice (some ⟨gs,0,none⟩) 0 0] from hw7 ▸ X6.set 3 _) B8)
        have HY:=hI_ (show BX w8 gy 28 [.slice a0 k.mem.length m0,.slice a1 k.infos.length m1,.slice a2 k.envs.length m2,.slice a3 k.cache.length m3] from hgy ▸ (hw8 ▸ BX.new w7 _ _:BX w8 w7.heap.size _ _));obtain ⟨c0,c1,c2,c3⟩:=H.out.x.c4;obtain ⟨d0,d1,d2,d3⟩:=(H.out.go B47).x.c4;obtain ⟨e0,e1,e2,e3⟩:=(H.out.go Hb48.out).x.c4;have z3:=X6.cell 3;simp only [List.getElem?_cons_zero,List.getElem?_cons_succ] at z3;have zf:=X6.frozen 3;replace H:=hI_ (H.out.go Hb48.out);have Hgx:=hI_ (show gx=w4.heap.size∧gx<w8.heap.size from ⟨hgx.symm,HX.out.lt⟩);have h68:w5.heap.size≤w6.heap.size:=B6.size;have Hgy:=hI_ (show w4.heap.size<gy∧gx<gy from ⟨by omega,by omega⟩);clear B5 B6 B46 B47 B8 X5 X6 s5 s7 h68;go_upto_region 9 with fail
        try rw [hw5]
        try rw [hgx]
        try clear hw5
        try clear hgx
        try clear c0
        try clear c1
        try clear c2
        try clear c3
        go_upto_region 10 with fail
        try rw [hw6]
        try rw [hgs]
        try rw [hw7]
        try clear hw6
        try clear hgs
        try clear hw7
        try clear z3
        try clear zf
        go_upto_region 11 with fail
        try rw [hw8]
        try rw [hgy]
        try clear hw8
        try clear hgy
        try clear d0
        try clear d1
        try clear d2
        try clear d3
        by_cases hc0:k.cache.length=0
        · have hcb:¬ (0:Int)<(k.cache.length:Int):=by omega
          have Hc0:=hI_ hc0;clear hc0;obtain ⟨x0,x1,x2,x3⟩:=HX.out.c4;go_wp2_with fail;clear e0 e1 e2 e3 hcb;clear x0 x1 x2 x3;refine (implKernelValid_c { k with cache:=[] } _ _ _ _ _ ⟨H.out.r.m,H.out.r.i,H.out.r.e,rcached_nil _ _⟩ H.out.s).mono ?_;rintro en w9 ⟨rfl,hb⟩;rw [Hok0.out];replace H:=hI_ (H.out.go hb);replace HY:=hI_ (HY.out.below hb);skip;clear hb HX;obtain ⟨x0,x1,x2,x3⟩:=HY.out.c4;go_wp2_with fail;clear x0 x1 x2 x3;refine (implKernelValid_c k _ _ _ _ _ ⟨H.out.r.m,H.out.r.i,H.out.r.e,H.out.r.c⟩ H.out.s).mono ?_;rintro en w10 ⟨rfl,hb⟩;rw [Hok.out];replace H:=hI_ (H.out.go hb);clear hb;go_wp2_with fail;go_ret;exact ⟨rfl,H.out.b⟩
        · have hcp:0<k.cache.length:=by omega
          have hcI:(0:Int)<(k.cache.length:Int):=by omega
          obtain ⟨i,hi⟩:∃ i:Nat,len1 % k.cache.length=i:=⟨_,rfl⟩;have hic:i<k.cache.length:=by rw [←hi];exact Nat.mod_lt _ hcp
          have hiI:(len1:Int) % (k.cache.length:Int)=(i:Int):=by rw [←hi];simp
          have hiT:Int.tmod (len1:Int) (k.cache.length:Int)=(i:Int):=by by_cases hh:(0:Int)≤(len1:Int);rw [Int.tmod_eq_emod_of_nonneg hh];exact hiI;exact absurd (Int.natCast_nonneg _) hh
          have hcne:((k.cache.length:Int)==0)=false:=by simpa using hc0
          go_wp2_with fail;clear e0 e1 e2 e3 hiI hiT hi hcne hc0;obtain ⟨d,hd⟩:∃ d,w8.drew=d:=⟨_,rfl⟩;have Bd:Below w8.heap.size w8 d:=hd ▸ Below.drewB bR_;have Hd:=hI_ hd;clear hd;replace Hb48:=hI_ (Hb48.out.trans (Bd.mono Hb48.out.size));replace H:=hI_ (H.out.go Bd);replace HX:=hI_ (HX.out.below Bd);replace HY:=hI_ (HY.out.below Bd);clear Bd;obtain ⟨bc,oc,cc,ev,_⟩:=RS.at H.out.r.c hcp;simp only [Value.slice.injEq] at ev;obtain ⟨rfl,hq1,hq2⟩:=ev;subst hq2;clear hq1;have Hc:=hI_ (show d.cell? ⟨g,3,none⟩=some (.slice (some ⟨bc,oc,none⟩) k.cache.length m3) from H.out.x.cell 3);have HC3:=hI_ H.out.r.c;obtain ⟨i1,hi1⟩:∃ j:Nat,i+1=j:=⟨_,rfl⟩;have hwr:IntKind.i64.wrap ((i:Int)+1)=(i1:Int):=by rw [IntWalk.i64_in _ (by have:=Hl4.out;omega)];omega
          have hi1c:i1≤k.cache.length:=by omega
          have hlm:=(RS.len H.out.r.c rfl).2;have hmI:(k.cache.length:Int)≤(m3:Int):=by omega
          have hiI2:(i:Int)≤(m3:Int):=by omega
          have hi1I:(i1:Int)≤(k.cache.length:Int):=by omega
          obtain ⟨A,hA,HRA⟩:∃ A:Option Addr,(if m3=i1 then some (⟨bc,oc,none⟩:Addr) else some ⟨bc,oc+i1*4,none⟩)=A∧Hid (RS cachedC 4 d (.slice A (k.cache.length - i1) (m3 - i1)) (k.cache.drop (i+1))):=by
            refine ⟨_,rfl,?_⟩;subst hi1
            by_cases hlast:i+1<k.cache.length
            · rw [if_neg (by omega)];exact RS.drop HC3.out (i+1) hlast
            · have hd0:k.cache.drop (i+1)=[]:=List.drop_eq_nil_of_le (by omega);rw [hd0,show k.cache.length - (i+1)=0 by omega];have hmx:=hlm.2;refine ⟨by simp,.inl ⟨rfl,_,_,rfl,by omega,fun h=>?_⟩⟩
              split at h <;> cases h
          have BD:=hI_ (Below.refl d.heap.size d);refine wpL (S:=(fun U:World=>U.cell? ⟨g,3,none⟩=some (.slice (some ⟨bc,oc,none⟩) k.cache.length m3))) (xs:=[13]) (by kernel_rfl) (by rw [Hd.out];exact Hc.out) (fun hHeld=>?_)
          rw [Hd.out];rw [Hd.out] at hHeld;clear Hd;refine tP 1 ?_;refine tL 2 ?_;refine tP 3 ?_;refine tP 4 ?_;refine tP 6 ?_;refine tL 7 ?_;refine tP 8 ?_;refine tP 9 ?_;refine tP 10 ?_;refine doL 0 (by kernel_rfl) rfl (fun K hK=>?_);rw [if_pos (by rfl)];go_simp;have HO:=hI_ (show OS cachedC 4 33 (d.alloc (.cells #[] 33)) d.heap.size (.slice (some ⟨d.heap.size,0,none⟩) 0 0) [] from OS.lit0 nR_);replace BD:=hI_ (BD.out.alloc BD.out.size (.cells #[] 33));obtain ⟨V0,hV0⟩:∃ V,d.alloc (.cells #[] 33)=V:=⟨_,rfl⟩;rw [hV0] at HO BD
          try rw [hV0]
          clear hV0;refine hK.out _ _ ?_ (fun hHeld=>?_)
          · exact (BD.out.cell (p:=⟨g,3,none⟩) H.out.x.lt).trans Hc.out
          clear hK K;refine nL ?_;refine doL 5 (by kernel_rfl) rfl (fun K hK=>?_);refine step_appS tiCached rfl _ _ rfl d.heap.size _ [] rfl HO.out _ (k.cache.take i) rfl (RS.take (RS.below HC3.out BD.out) i (by omega)) (by have:=Hl4.out;simp;omega) BD.out.size ?_;intro v1 V1 ho1 hg1 _;rw [List.nil_append] at ho1;replace BD:=hI_ (Below.appS BD.out HO.out hg1 nR_ BD.out.size);have HO1:=hI_ ho1;clear ho1 hg1 HO;refine hK.out _ _ ?_ (fun hHeld=>?_)
          · exact (BD.out.cell (p:=⟨g,3,none⟩) H.out.x.lt).trans Hc.out
          clear hK K;refine nL ?_;refine doL 11 (by kernel_rfl) rfl (fun K hK=>?_);refine step_appS tiCached rfl _ _ rfl d.heap.size _ (k.cache.take i) rfl HO1.out _ (k.cache.drop (i+1)) rfl (RS.below HRA.out BD.out) (by have:=Hl4.out;simp;omega) BD.out.size ?_;intro v2 V2 ho2 hg2 _;replace BD:=hI_ (Below.appS BD.out HO1.out hg2 nR_ BD.out.size);have HO2:=hI_ ho2;clear ho2 hg2 HO1;refine hK.out _ _ ?_ (fun hHeld=>?_)
          · exact (BD.out.cell (p:=⟨g,3,none⟩) H.out.x.lt).trans Hc.out
          clear hK K;refine nL ?_;refine tP 12 ?_;replace H:=hI_ (H.out.go BD.out);replace HX:=hI_ (HX.out.below BD.out);replace HY:=hI_ (HY.out.below BD.out);have HYk:=hI_ HY.out;obtain ⟨x0,x1,x2,x3⟩:=HY.out.c4;obtain ⟨fz0,fz1,fz2,fz3⟩:=HY.out.f4;obtain ⟨av,cv,rfl,_,_⟩:=RS.val HO2.out.rs;obtain ⟨nl,hnl⟩:∃ n,(k.cache.take i ++ k.cache.drop (i+1)).length=n:=⟨_,rfl⟩;rw [hnl] at HO2;rw [hnl];clear hnl;refine lastL 13 (by rfl) (by kernel_rfl) rfl (fun K hK=>?_);rw [if_pos (by rfl)];go_simp;refine hK.out _ _ ?_;clear hK K;refine nL ?_;refine doneL (by kernel_rfl) ?_ _;have hgy:=Hgy.out;obtain ⟨V3,hV3⟩:∃ V,V2.setCell ⟨gy,3,none⟩ (.slice av nl cv)=V:=⟨_,rfl⟩;have BW:=hI_ (show Below w4.heap.size w4 V3 from hV3 ▸ ((Hb48.out.trans (BD.out.mono Hb48.out.size)).setCell (p:=⟨gy,3,none⟩) (Nat.le_of_lt hgy.1) _));replace H:=hI_ (H4.out.go BW.out)
          replace HX:=hI_ (show BX V3 gx 28 _ from hV3 ▸ HX.out.other (by omega) 3 _);replace HY:=hI_ (show BX V3 gy 28 _ from hV3 ▸ HY.out.set 3 _);have HC2:=hI_ (show RCached V3 (.slice av nl cv) (k.cache.take i ++ k.cache.drop (i+1)) from hV3 ▸ (OS.keptT HO2.out (grown_set1 V2 gy 3 _) HYk.out (by decide)).rs);have Hok2:=hI_ (forget_ok Hok.out (take_drop_sub k.cache i))
          try rw [hV3]
          clear hV3 BW BD hHeld x0 x1 x2 x3 fz0 fz1 fz2 fz3 hA hwr;obtain ⟨x0,x1,x2,x3⟩:=HX.out.c4;go_wp2_with fail;clear x0 x1 x2 x3;refine (implKernelValid_c { k with cache:=[] } _ _ _ _ _ ⟨H.out.r.m,H.out.r.i,H.out.r.e,rcached_nil _ _⟩ H.out.s).mono ?_;rintro en w9 ⟨rfl,hb⟩;rw [Hok0.out];replace H:=hI_ (H.out.go hb);replace HY:=hI_ (HY.out.below hb);replace HC2:=hI_ (RS.below HC2.out hb);clear hb HX;obtain ⟨x0,x1,x2,x3⟩:=HY.out.c4;go_wp2_with fail;clear x0 x1 x2 x3;refine (implKernelValid_c { k with cache:=k.cache.take i ++ k.cache.drop (i+1) } _ _ _ _ _ ⟨H.out.r.m,H.out.r.i,H.out.r.e,HC2.out⟩ H.out.s).mono ?_;rintro en w10 ⟨rfl,hb⟩;rw [Hok2.out];replace H:=hI_ (H.out.go hb);clear hb;go_wp2_with fail;go_ret;exact ⟨rfl,H.out.b⟩
    · have hI1:(1048576:Int)<(len1:Int):=by omega
      clear h0;go_enter Tryz.func3,Tryz.ntmps3;go_wp2_with fail;go_ret;exact ⟨rfl,Below.refl _ _⟩
  · have hI0:(1048576:Int)<(len0:Int):=by omega
    clear h0;go_enter Tryz.func3,Tryz.ntmps3;go_wp2_with fail;go_ret;exact ⟨rfl,Below.refl _ _⟩
end Go.Proofs.YtenebmeaoidnoaaGreatDoor
