/- The law FnKernelCache: what is remembered is right. (printed by kl.py) -/
import Derived.Test.YtenebmeaoidnoaaGreatDoorKS
import Derived.Test.YtenebmeaoidnoaaGreatDoorKR
import Derived.Test.YtenebmeaoidnoaaGreatDoorKY
namespace Go.Proofs.YtenebmeaoidnoaaGreatDoor
open Go.RowKit
set_option maxHeartbeats 8000000 in
set_option maxRecDepth 100000 in
theorem FnKernelCache_c (a:Option Addr) (len0 cap0:Nat) (z0:List Int) (w:World) (h0:IsRow .u8 w a len0 cap0 z0) :
    Calls Tryz.prog 4 #[.slice a len0 cap0] w (YesB w):=by
  by_cases hl0:len0≤1048576
  · have hI0:¬ (1048576:Int)<(len0:Int):=by omega
    have Hr:=hI_ (IsRow.rb h0);clear h0;go_enter Tryz.func4,Tryz.ntmps4;go_wp2_with fail;clear hI0;refine (DrawKernelValid_c _ _ _ Hr.out).mono ?_;rintro e w1 ⟨k,v0,v1,v2,v3,rfl,_,hs,hk,hb⟩;obtain ⟨_,a0,m0,rfl,_,_⟩:=hk.m.len;obtain ⟨a1,m1,rfl,_,_⟩:=RS.val hk.i;obtain ⟨_,a2,m2,rfl,_,_⟩:=hk.e.len;obtain ⟨a3,m3,rfl,_,_⟩:=RS.val hk.c;obtain ⟨w2,hw2⟩:∃ V,w1.alloc (.cells #[.slice a0 k.mem.length m0,.slice a1 k.infos.length m1,.slice a2 k.envs.length m2,.slice a3 k.cache.length m3] 28)=V:=⟨_,rfl⟩;obtain ⟨g,hg⟩:∃ g,w1.heap.size=g:=⟨_,rfl⟩;have H:=hI_ (show LS w w2 g k (.slice a0 k.mem.length m0) (.slice a1 k.infos.length m1) (.slice a2 k.envs.length m2) (.slice a3 k.cache.length m3) from LS.start hs hk hb hw2 hg);have Hg:=hI_ hg;clear hs hk hb Hg;obtain ⟨c0,c1,c2,c3⟩:=H.out.x.c4;go_wp2_with fail;clear c0 c1 c2 c3 hw2 hg
    refine (implKernelValid_c k _ _ _ _ _ H.out.r H.out.s).mono ?_;rintro e w3 ⟨rfl,hb⟩;replace H:=hI_ (H.out.go hb);clear hb Hr;obtain ⟨c0,c1,c2,c3⟩:=H.out.x.c4;go_wp2_with fail;clear c0 c1 c2 c3;refine (specKernelValid_c k _ _ _ _ _ H.out.r H.out.s).mono ?_;rintro e w4 ⟨rfl,hb⟩;replace H:=hI_ (H.out.go hb);clear hb
    cases hok:Kx.kernelOk k with
    | false =>
      clear hok;go_wp2_with fail;go_ret;exact ⟨rfl,H.out.b⟩
    | true =>
      have Hok:=hI_ hok;clear hok;obtain ⟨hmo,_,_,_,h3,_⟩:=kernelOk_parts Hok.out;have Hmo:=hI_ hmo;have H3:=hI_ h3;have hlen:=H.out.r.c.1;clear hmo h3;go_wp2_with fail;go_loopw [6] (fun i wr=>∃ j:Nat,i=.int .i64 j∧j≤k.cache.length∧Hid (LS w wr g k (.slice a0 k.mem.length m0) (.slice a1 k.infos.length m1) (.slice a2 k.envs.length m2) (.slice a3 k.cache.length m3))) (fun i _=>k.cache.length - (intOf i).toNat)
      case atStart=>exact ⟨0,rfl,Nat.zero_le _,H⟩
      case round =>
        clear H;obtain ⟨j,rfl,hj,H⟩:=hrel;obtain ⟨c0,c1,c2,c3⟩:=H.out.x.c4
        by_cases hlt:j<k.cache.length
        · have hlI:(j:Int)<(k.cache.length:Int):=by omega
          obtain ⟨e,pg,f,R,ad,c,wt,hx,he,hpg,hf,had,had64,hR,hroot,hwalk⟩:=cache_at Hok.out hlt;obtain ⟨bc,oc,cc,ev,hbc,q0,q1,q2,q3⟩:=RCached.at H.out.r.c hlt;simp only [Value.slice.injEq] at ev;obtain ⟨rfl,_,rfl⟩:=ev;rw [hx] at q0 q1 q2 q3;obtain ⟨w5,hw5⟩:∃ V,wr.alloc (.cells #[.int .i64 e,.int .i64 pg,.int .i64 f,.bool wt] 33)=V:=⟨_,rfl⟩;obtain ⟨g6,hg6⟩:∃ g,wr.heap.size=g:=⟨_,rfl⟩;have B5:Below wr.heap.size wr w5:=hw5 ▸ bL_;have X7:=hI_ (show BX w5 g6 33 [.int .i64 e,.int .i64 pg,.int .i64 f,.bool wt] from hg6 ▸ (hw5 ▸ BX.new wr _ _:BX w5 wr.heap.size _ _));replace H:=hI_ (H.out.go B5);have Hres:=hI_ hwalk;have Hg6:=hI_ hg6;have Had:=hI_ had;have Hroot:=hI_ hroot;clear B5 hx hwalk hg6 had hroot;go_wp2_with fail
          try rw [hw5]
          try rw [Hg6.out]
          clear hw5 q0 q1 q2 q3 c0 c1 c2 c3 hbc;obtain ⟨d,hd⟩:∃ d,w5.drew=d:=⟨_,rfl⟩;have Bd:Below w5.heap.size w5 d:=hd ▸ Below.drewB bR_;have Hd:=hI_ hd;clear hd;replace H:=hI_ (H.out.go Bd);replace X7:=hI_ (X7.out.below Bd);clear Bd;obtain ⟨be,oe,ce,u,ev,hbe,_,gr,_⟩:=H.out.r.e.at (k:=e) (by rw [H3.out];exact he);simp only [Value.slice.injEq] at ev;obtain ⟨rfl,_,rfl⟩:=ev;rw [Hroot.out] at gr;have G:=hI_ gr;have Hbe:=hI_ hbe;have heI:(e:Int)<(k.envs.length:Int):=by rw [H3.out];omega
          have hwr:IntKind.i64.wrap ((pg:Int)*4)=(ad:Int):=by rw [IntWalk.i64_in _ (by omega),Had.out];omega
          clear gr hbe;have BD:=hI_ (Below.refl d.heap.size d);refine wpL (S:=(fun U:World=>U.cell? ⟨g,0,none⟩=some (.slice a0 k.mem.length m0)∧U.cell? ⟨g,2,none⟩=some (.slice (some ⟨be,oe,none⟩) k.envs.length m2)∧U.cell? ⟨g6,0,none⟩=some (.int .i64 (e:Int))∧U.cell? ⟨g6,1,none⟩=some (.int .i64 (pg:Int))∧U.cell? ⟨be,oe+e*2+1,none⟩=some (.int .i64 (R:Int)))) (xs:=[]) (by kernel_rfl) (by rw [Hd.out];exact ⟨(BD.out.cell (p:=⟨g,0,none⟩) H.out.x.lt).trans (H.out.x.cell 0),(BD.out.cell (p:=⟨g,2,none⟩) H.out.x.lt).trans (H.out.x.cell 2),(BD.out.cell (p:=⟨g6,0,none⟩) X7.out.lt).trans (X7.out.cell 0),(BD.out.cell (p:=⟨g6,1,none⟩) X7.out.lt).trans (X7.out.cell 1),(BD.out.cell (p:=⟨be,oe+e*2+1,none⟩) Hbe.out).trans G.out⟩) (fun hHeld=>?_)
          rw [Hd.out];rw [Hd.out] at hHeld;clear Hd;refine tP 0 ?_;refine tL 1 ?_;refine tP 2 ?_;refine tL 3 ?_;refine tP 4 ?_;refine tL 5 ?_;refine tP 6 ?_;refine tP 7 ?_;refine tL 8 ?_;refine tP 9 ?_;refine tL 10 ?_;refine tP 11 ?_;refine do2L 12 16 (by kernel_rfl) rfl rfl (fun K hK=>?_) (fun K hK=>?_)
          · rw [if_pos (by rfl)];go_simp;go_at_call 14;refine (implWalkP_c k.mem R ad _ d (H.out.r.m.below BD.out) Hmo.out hR had64).mono ?_;rintro en V1 ⟨rfl,hb⟩;rw [Hres.out];unfold walkV;replace BD:=hI_ (BD.out.trans (hb.mono BD.out.size));refine hK.out _ _ ?_ (fun hHeld=>?_)
            · exact ⟨(BD.out.cell (p:=⟨g,0,none⟩) H.out.x.lt).trans (H.out.x.cell 0),(BD.out.cell (p:=⟨g,2,none⟩) H.out.x.lt).trans (H.out.x.cell 2),(BD.out.cell (p:=⟨g6,0,none⟩) X7.out.lt).trans (X7.out.cell 0),(BD.out.cell (p:=⟨g6,1,none⟩) X7.out.lt).trans (X7.out.cell 1),(BD.out.cell (p:=⟨be,oe+e*2+1,none⟩) Hbe.out).trans G.out⟩
            clear hK K;refine nL ?_;refine tP 13 ?_;refine tP 14 ?_;refine tP 15 ?_;refine doL 16 (by kernel_rfl) rfl (fun K hK=>?_);rw [if_pos (by rfl)];go_simp;obtain ⟨U,hU⟩:∃ V,V1.alloc (.cells #[.int .i64 0,.int .i64 0,.bool false] 35)=V:=⟨_,rfl⟩;have XP:=hI_ (show BX U V1.heap.size 35 [.int .i64 0,.int .i64 0,.bool false] from hU ▸ BX.new V1 _ _);obtain ⟨g7,hg7⟩:∃ g,V1.heap.size=g:=⟨_,rfl⟩;rw [hg7] at XP ⊢;have hgd:d.heap.size≤g7:=by rw [←hg7];exact BD.out.size
            replace BD:=hI_ (show Below d.heap.size d U from hU ▸ BD.out.alloc BD.out.size _)
            try rw [hU]
            clear hU hg7;refine hK.out _ _ ?_ (fun hHeld=>?_)
            · exact ⟨(BD.out.cell (p:=⟨g,0,none⟩) H.out.x.lt).trans (H.out.x.cell 0),(BD.out.cell (p:=⟨g,2,none⟩) H.out.x.lt).trans (H.out.x.cell 2),(BD.out.cell (p:=⟨g6,0,none⟩) X7.out.lt).trans (X7.out.cell 0),(BD.out.cell (p:=⟨g6,1,none⟩) X7.out.lt).trans (X7.out.cell 1),(BD.out.cell (p:=⟨be,oe+e*2+1,none⟩) Hbe.out).trans G.out⟩
            clear hK K;refine nL ?_;obtain ⟨p0,p1,p2⟩:U.cell? ⟨g7,0,none⟩=some (.int .i64 0)∧U.cell? ⟨g7,1,none⟩=some (.int .i64 0)∧U.cell? ⟨g7,2,none⟩=some (.bool false):=⟨XP.out.cell 0,XP.out.cell 1,XP.out.cell 2⟩;obtain ⟨z0,z1,z2⟩:U.frozen? ⟨g7,0,none⟩=false∧U.frozen? ⟨g7,1,none⟩=false∧U.frozen? ⟨g7,2,none⟩=false:=⟨XP.out.frozen 0,XP.out.frozen 1,XP.out.frozen 2⟩;replace XP:=hI_ (((XP.out.set 0 (.int .i64 f)).set 1 (.int .i64 c)).set 2 (.bool wt));replace BD:=hI_ (((BD.out.setCell (p:=⟨g7,0,none⟩) hgd (.int .i64 f)).setCell (p:=⟨g7,1,none⟩) hgd (.int .i64 c)).setCell (p:=⟨g7,2,none⟩) hgd (.bool wt));refine doL 17 (by kernel_rfl) rfl (fun K hK=>?_);rw [if_pos (by rfl)];go_simp;refine hK.out _ _ ?_ (fun hHeld=>?_)
            · exact ⟨(BD.out.cell (p:=⟨g,0,none⟩) H.out.x.lt).trans (H.out.x.cell 0),(BD.out.cell (p:=⟨g,2,none⟩) H.out.x.lt).trans (H.out.x.cell 2),(BD.out.cell (p:=⟨g6,0,none⟩) X7.out.lt).trans (X7.out.cell 0),(BD.out.cell (p:=⟨g6,1,none⟩) X7.out.lt).trans (X7.out.cell 1),(BD.out.cell (p:=⟨be,oe+e*2+1,none⟩) Hbe.out).trans G.out⟩
            clear hK K;refine nL ?_;refine tP 18 ?_;refine doneL (by kernel_rfl) ?_ _;obtain ⟨V,hV⟩:∃ V,((U.setCell ⟨g7,0,none⟩ (.int .i64 f)).setCell ⟨g7,1,none⟩ (.int .i64 c)).setCell ⟨g7,2,none⟩ (.bool wt)=V:=⟨_,rfl⟩;rw [hV] at BD XP;replace XP:=hI_ (show BX V g7 35 [.int .i64 f,.int .i64 c,.bool wt] from XP.out)
            try rw [hV]
            clear hV p0 p1 p2 z0 z1 z2 hHeld hgd;replace H:=hI_ (H.out.go BD.out);replace X7:=hI_ (X7.out.below BD.out);obtain ⟨x0,x1,x2,x3⟩:=X7.out.c4;obtain ⟨p0,p1,p2⟩:V.cell? ⟨g7,0,none⟩=some (.int .i64 f)∧V.cell? ⟨g7,1,none⟩=some (.int .i64 c)∧V.cell? ⟨g7,2,none⟩=some (.bool wt):=⟨XP.out.cell 0,XP.out.cell 1,XP.out.cell 2⟩;clear BD X7 XP G Hbe hwr;go_wp2_with fail;go_roundw
            case rel=>exact ⟨j+1,by go_num,by omega,H⟩
            case measure=>simp [intOf];omega
          · rw [if_pos (by rfl)];go_simp;obtain ⟨U,hU⟩:∃ V,d.alloc (.cells #[.int .i64 0,.int .i64 0,.bool false] 35)=V:=⟨_,rfl⟩;have XP:=hI_ (show BX U d.heap.size 35 [.int .i64 0,.int .i64 0,.bool false] from hU ▸ BX.new d _ _);obtain ⟨g7,hg7⟩:∃ g,d.heap.size=g:=⟨_,rfl⟩;rw [hg7] at XP ⊢;have hgd:d.heap.size≤g7:=by rw [←hg7];exact BD.out.size
            replace BD:=hI_ (show Below d.heap.size d U from hU ▸ BD.out.alloc BD.out.size _)
            try rw [hU]
            clear hU hg7;refine hK.out _ _ ?_ (fun hHeld=>?_)
            · exact ⟨(BD.out.cell (p:=⟨g,0,none⟩) H.out.x.lt).trans (H.out.x.cell 0),(BD.out.cell (p:=⟨g,2,none⟩) H.out.x.lt).trans (H.out.x.cell 2),(BD.out.cell (p:=⟨g6,0,none⟩) X7.out.lt).trans (X7.out.cell 0),(BD.out.cell (p:=⟨g6,1,none⟩) X7.out.lt).trans (X7.out.cell 1),(BD.out.cell (p:=⟨be,oe+e*2+1,none⟩) Hbe.out).trans G.out⟩
            clear hK K;refine nL ?_;refine doL 12 (by kernel_rfl) rfl (fun K hK=>?_);rw [if_pos (by rfl)];go_simp;go_at_call 14;refine (implWalkP_c k.mem R ad _ U (H.out.r.m.below BD.out) Hmo.out hR had64).mono ?_;rintro en V1 ⟨rfl,hb⟩;rw [Hres.out];unfold walkV;replace BD:=hI_ (BD.out.trans (hb.mono BD.out.size));replace XP:=hI_ (XP.out.below hb);refine hK.out _ _ ?_ (fun hHeld=>?_)
            · exact ⟨(BD.out.cell (p:=⟨g,0,none⟩) H.out.x.lt).trans (H.out.x.cell 0),(BD.out.cell (p:=⟨g,2,none⟩) H.out.x.lt).trans (H.out.x.cell 2),(BD.out.cell (p:=⟨g6,0,none⟩) X7.out.lt).trans (X7.out.cell 0),(BD.out.cell (p:=⟨g6,1,none⟩) X7.out.lt).trans (X7.out.cell 1),(BD.out.cell (p:=⟨be,oe+e*2+1,none⟩) Hbe.out).trans G.out⟩
            clear hK K;refine nL ?_;refine tP 13 ?_;refine tP 14 ?_;refine tP 15 ?_;obtain ⟨p0,p1,p2⟩:V1.cell? ⟨g7,0,none⟩=some (.int .i64 0)∧V1.cell? ⟨g7,1,none⟩=some (.int .i64 0)∧V1.cell? ⟨g7,2,none⟩=some (.bool false):=⟨XP.out.cell 0,XP.out.cell 1,XP.out.cell 2⟩;obtain ⟨z0,z1,z2⟩:V1.frozen? ⟨g7,0,none⟩=false∧V1.frozen? ⟨g7,1,none⟩=false∧V1.frozen? ⟨g7,2,none⟩=false:=⟨XP.out.frozen 0,XP.out.frozen 1,XP.out.frozen 2⟩;replace XP:=hI_ (((XP.out.set 0 (.int .i64 f)).set 1 (.int .i64 c)).set 2 (.bool wt));replace BD:=hI_ (((BD.out.setCell (p:=⟨g7,0,none⟩) hgd (.int .i64 f)).setCell (p:=⟨g7,1,none⟩) hgd (.int .i64 c)).setCell (p:=⟨g7,2,none⟩) hgd (.bool wt));refine doL 17 (by kernel_rfl) rfl (fun K hK=>?_);rw [if_pos (by rfl)];go_simp;refine hK.out _ _ ?_ (fun hHeld=>?_)
            · exact ⟨(BD.out.cell (p:=⟨g,0,none⟩) H.out.x.lt).trans (H.out.x.cell 0),(BD.out.cell (p:=⟨g,2,none⟩) H.out.x.lt).trans (H.out.x.cell 2),(BD.out.cell (p:=⟨g6,0,none⟩) X7.out.lt).trans (X7.out.cell 0),(BD.out.cell (p:=⟨g6,1,none⟩) X7.out.lt).trans (X7.out.cell 1),(BD.out.cell (p:=⟨be,oe+e*2+1,none⟩) Hbe.out).trans G.out⟩
            clear hK K;refine nL ?_;refine tP 18 ?_;refine doneL (by kernel_rfl) ?_ _;obtain ⟨V,hV⟩:∃ V,((V1.setCell ⟨g7,0,none⟩ (.int .i64 f)).setCell ⟨g7,1,none⟩ (.int .i64 c)).setCell ⟨g7,2,none⟩ (.bool wt)=V:=⟨_,rfl⟩;rw [hV] at BD XP;replace XP:=hI_ (show BX V g7 35 [.int .i64 f,.int .i64 c,.bool wt] from XP.out)
            try rw [hV]
            clear hV p0 p1 p2 z0 z1 z2 hHeld hgd;replace H:=hI_ (H.out.go BD.out);replace X7:=hI_ (X7.out.below BD.out);obtain ⟨x0,x1,x2,x3⟩:=X7.out.c4;obtain ⟨p0,p1,p2⟩:V.cell? ⟨g7,0,none⟩=some (.int .i64 f)∧V.cell? ⟨g7,1,none⟩=some (.int .i64 c)∧V.cell? ⟨g7,2,none⟩=some (.bool wt):=⟨XP.out.cell 0,XP.out.cell 1,XP.out.cell 2⟩;clear BD X7 XP G Hbe hwr;go_wp2_with fail;go_roundw
            case rel=>exact ⟨j+1,by go_num,by omega,H⟩
            case measure=>simp [intOf];omega
        · obtain rfl:j=k.cache.length:=by omega
          go_wp2_with fail;go_ret;exact ⟨rfl,H.out.b⟩
  · have hI0:(1048576:Int)<(len0:Int):=by omega
    clear h0;go_enter Tryz.func4,Tryz.ntmps4;go_wp2_with fail;go_ret;exact ⟨rfl,Below.refl _ _⟩
end Go.Proofs.YtenebmeaoidnoaaGreatDoor
