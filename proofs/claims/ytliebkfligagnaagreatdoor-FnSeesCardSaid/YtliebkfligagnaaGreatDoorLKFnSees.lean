/- The law FnSees: what is seen lies in memory. (printed by kl.py) -/
import Derived.Test.YtliebkfligagnaaGreatDoorKS
import Derived.Test.YtliebkfligagnaaGreatDoorKD24
import Derived.Test.YtliebkfligagnaaGreatDoorKE
set_option maxHeartbeats 8000000
set_option maxRecDepth 100000
set_option linter.all false
namespace Go.Proofs.YtliebkfligagnaaGreatDoor
open Go.RowKit
theorem JH {k:Kx.Kernel} (h:Kx.az k=true) {e a:Nat} (he:e<3) (ha:a<64) :
  Kx.sees k (e:Int) (a:Int)=if (Kx.au k.ah e).root<0 then (0,false) else match Kx.walk k.mem (Kx.au k.ah e).root.toNat a with
  | ((f,a,_),c)=>if c=0 then (Kx.word k.mem f.toNat a.toNat,true) else (0,false):=by
 unfold Kx.sees;rw [h,show Kx.bK (e:Int) 0 2=true from Kx.ay.2 (by omega),show Kx.bK (a:Int) 0 63=true from Kx.ay.2 (by omega),Int.toNat_natCast,Int.toNat_natCast];simp
theorem G_ {k:Kx.Kernel} {env ad x:Int} (h:Kx.sees k env ad=(x,true)):Kx.az k=true∧Kx.bK env 0 2=true∧Kx.bK ad 0 63=true∧¬ (Kx.au k.ah env.toNat).root<0:=by
 unfold Kx.sees at h;split at h
 ·simp at h
 rename_i hc
 simp at hc
 obtain ⟨⟨⟨h1,h2⟩,h3⟩,h4⟩:=hc;exact ⟨h1,h2,h3,by omega⟩
theorem yB {m:List (List Int)} {r i g:Nat} {b:Bool} (h:Kx.entry (Kx.word m r i)=some (g,b)):g ∈ Kx.ax (Kx.row m r):=by
 refine Kx.iL.2 ⟨_,?_,b,h⟩
 by_cases hl:i<(Kx.row m r).length
 ·rw [show Kx.word m r i=(Kx.row m r)[i] by unfold Kx.word;simp [hl]];exact List.getElem_mem hl
 rw [show Kx.word m r i=0 by unfold Kx.word;simp [hl],Kx.g_] at h
 cases h
theorem Fe {m:List (List Int)} {R a f':Nat} {c:Int} {b:Bool} (h:Kx.walk m R a=((((f':Nat):Int),c,b),0)):f' ∈ Kx.reach m (R:Int):=by
 unfold Kx.walk at h;split at h
 ·simp at h
 rename_i t b1 he
 split at h
 ·simp at h
 rename_i f d he2
 simp only [Prod.mk.injEq] at h;obtain ⟨⟨h1,_,_⟩,_⟩:=h;obtain rfl:f=f':=by omega
 refine Kx.iY.2 ⟨by omega,Kx.dU he2,.inr (.inr ⟨t,?_,?_⟩)⟩
 ·rw [Int.toNat_natCast];exact yB he
 exact yB he2
theorem FnSees_c (a:Option Addr) (len0 cap0:Nat) (z0:List Int) (w:World) (h0:IsRow .u8 w a len0 cap0 z0) :
  Calls Tryz.prog 6 #[.slice a len0 cap0] w (YesB w):=by
 by_cases hl0:len0≤1048576
 ·have hI0:¬ (1048576:Int)<(len0:Int):=by omega
  have Hr:=af (IsRow.rb h0);clear h0;go_enter Tryz.func6,Tryz.ntmps6;go_wp2_with fail;clear hI0;refine (oD _ _ _ Hr.out).mono ?_;rintro en w1 ⟨k,v0,v1,v2,v3,_,rfl,⟨e,ad,he,rfl⟩,hs,hk,hb⟩;obtain ⟨_,a0,m0,rfl,_,_⟩:=hk.m.len;obtain ⟨a1,m1,rfl,_,_⟩:=RS.val hk.i;obtain ⟨_,a2,m2,rfl,_,_⟩:=hk.e.len;obtain ⟨a3,m3,rfl,_,_⟩:=RS.val hk.c;obtain ⟨w2,hw2⟩:∃ V,w1.alloc (.cells #[.slice a0 k.mem.length m0,.slice a1 k.ag.length m1,.slice a2 k.ah.length m2,.slice a3 k.cache.length m3] 36)=V:=⟨_,rfl⟩;obtain ⟨g,hg⟩:∃ g,w1.heap.size=g:=⟨_,rfl⟩;have H:=af (show LS w w2 g k (.slice a0 k.mem.length m0) (.slice a1 k.ag.length m1) (.slice a2 k.ah.length m2) (.slice a3 k.cache.length m3) from LS.start hs hk hb hw2 hg);obtain ⟨⟨sx,sb⟩,hsv⟩:∃ r,Kx.sees k (e:Int) ad=r:=⟨_,rfl⟩;have BI:=af hsv;clear hs hk hb Hr hsv;obtain ⟨c0,c1,c2,c3⟩:=H.out.x.c4;go_wp2_with fail;clear c0 c1 c2 c3 hw2 hg
  refine (oG k (e:Int) ad _ _ _ _ _ H.out.r H.out.s).mono ?_;rintro en w3 ⟨rfl,hb⟩;rw [BI.out];replace H:=af (H.out.go hb);clear hb;obtain ⟨c0,c1,c2,c3⟩:=H.out.x.c4;go_wp2_with fail;clear c0 c1 c2 c3;refine (kY k (e:Int) ad _ _ _ _ _ H.out.r H.out.s).mono ?_;rintro en w4 ⟨rfl,hb⟩;rw [BI.out];replace H:=af (H.out.go hb);clear hb;obtain ⟨c0,c1,c2,c3⟩:=H.out.x.c4
  cases sb with
  | false =>
   clear c0 c1 c2 c3;go_wp2_with fail;go_ret;exact ⟨rfl,H.out.b⟩
  | true =>
   obtain ⟨hok,_,hai,hr0⟩:=G_ BI.out;have bF:=af hok;obtain ⟨RY,hai1⟩:=Kx.ay.1 hai;obtain ⟨a',rfl⟩:=Int.eq_ofNat_of_zero_le RY;have ha:a'<64:=by omega
   replace BI:=af ((JH bF.out he ha).symm.trans BI.out);rw [Int.toNat_natCast] at hr0;clear hok hai RY hai1;obtain ⟨hmo,jI,h12,hx1,h3,hx2⟩:=aI bF.out;have kG:=af hmo;have lL:=hx2 e he;have VF:e<k.ah.length:=by rw [h3];exact he
   have PG:(e:Int)<(k.ah.length:Int):=by omega
   obtain ⟨be,oe,ce,ur,ev,hbe,_,gr,_⟩:=H.out.r.e.at VF;simp only [Value.slice.injEq] at ev;obtain ⟨rfl,_,rfl⟩:=ev;clear hmo jI h12 hx1 h3 hx2;have hkr:qx k (e:Int)=Kx.reach k.mem (Kx.au k.ah e).root:=by unfold qx;rw [bF.out,show Kx.bK (e:Int) 0 2=true from Kx.ay.2 (by omega)];simp
   obtain ⟨rt,hrt⟩:∃ r,(Kx.au k.ah e).root=r:=⟨_,rfl⟩;rw [hrt] at gr lL BI hkr hr0;obtain ⟨R,rfl⟩:=Int.eq_ofNat_of_zero_le (show 0≤rt by omega);rw [if_neg hr0,Int.toNat_natCast] at BI;have hR:R<12:=by omega
   obtain ⟨⟨⟨f,c,wt⟩,code⟩,hres⟩:∃ r,Kx.walk k.mem R a'=r:=⟨_,rfl⟩;have MS:=BI.out;rw [hres] at MS;have hc0:code=0:=by
    by_cases h:code=0
    ·exact h
    simp [h] at MS
   subst hc0;obtain ⟨f,c,rfl,rfl,hf,hc⟩:=mJ hres;have Z4:=af (show Kx.word k.mem f c=sx by simpa using MS);have jR:=af (show decide (((f:Nat):Int) ∈ fU (qx k (e:Int)))=true from decide_eq_true (by rw [hkr];unfold fU;exact List.mem_map.2 ⟨f,Fe hres,rfl⟩));have kS:=af hres;have Ff:=af hbe;have G0:=af gr;clear hres hrt hr0 hbe lL hkr MS BI;go_wp2_with fail;clear gr c0 c1 c2 c3;obtain ⟨d,hd⟩:∃ d,w4.drew=d:=⟨_,rfl⟩;have Bd:Below w4.heap.size w4 d:=hd ▸ Below.bz fZ;have Hd:=af hd;clear hd;replace H:=af (H.out.go Bd);have Fg:=af (Nat.lt_of_lt_of_le Ff.out Bd.size);have G:=af ((Bd.cell (p:=⟨be,oe+e*2+1,none⟩) Ff.out).trans G0.out);clear Bd Ff G0;have BD:=af (Below.refl d.heap.size d)
   refine uu (S:=(fun U:World=>U.cell? ⟨g,0,none⟩=some (.slice a0 k.mem.length m0)∧U.cell? ⟨g,2,none⟩=some (.slice (some ⟨be,oe,none⟩) k.ah.length m2)∧U.cell? ⟨be,oe+e*2+1,none⟩=some (.int .i64 (R:Int)))) (xs:=[]) (by kernel_rfl) (by rw [Hd.out];exact ⟨(BD.out.cell (p:=⟨g,0,none⟩) H.out.x.lt).trans (H.out.x.cell 0),(BD.out.cell (p:=⟨g,2,none⟩) H.out.x.lt).trans (H.out.x.cell 2),(BD.out.cell (p:=⟨be,oe+e*2+1,none⟩) Fg.out).trans G.out⟩) (fun hHeld=>?_)
   rw [Hd.out];rw [Hd.out] at hHeld;clear Hd;refine tP 0 ?_;refine tL 1 ?_;refine tP 2 ?_;refine tL 3 ?_;refine tP 4 ?_;refine tP 5 ?_;refine tP 6 ?_;refine tL 7 ?_;refine tP 8 ?_;refine MV 9 13 (by kernel_rfl) rfl rfl (fun K hK=>?VG) (fun K hK=>?VI)
   case' VG =>
    rw [if_pos (by rfl)];go_simp;go_at_call 30;refine (ng k.mem R a' _ d (H.out.r.m.below BD.out) kG.out hR ha).mono ?_;rintro en V1 ⟨rfl,hb⟩;rw [kS.out];unfold kM;replace BD:=af (BD.out.trans (hb.mono BD.out.size));refine hK.out _ _ ?_ (fun hHeld=>?_)
    ·exact ⟨(BD.out.cell (p:=⟨g,0,none⟩) H.out.x.lt).trans (H.out.x.cell 0),(BD.out.cell (p:=⟨g,2,none⟩) H.out.x.lt).trans (H.out.x.cell 2),(BD.out.cell (p:=⟨be,oe+e*2+1,none⟩) Fg.out).trans G.out⟩
    clear hK K;refine nL ?_;refine tP 10 ?_;refine tP 11 ?_;refine tP 12 ?_;refine lI 13 (by kernel_rfl) rfl (fun K hK=>?_);rw [if_pos (by rfl)];go_simp;obtain ⟨UU,hU⟩:∃ V,V1.alloc (.cells #[.int .i64 0,.int .i64 0,.bool false] 66)=V:=⟨_,rfl⟩;have XP:=af (show BX UU V1.heap.size 66 [.int .i64 0,.int .i64 0,.bool false] from hU ▸ BX.new V1 _ _);obtain ⟨g7,Fh⟩:∃ g,V1.heap.size=g:=⟨_,rfl⟩;rw [Fh] at XP ⊢;have hgd:d.heap.size≤g7:=by rw [←Fh];exact BD.out.size
    replace BD:=af (show Below d.heap.size d UU from hU ▸ BD.out.alloc BD.out.size _)
    try rw [hU]
    clear hU Fh;refine hK.out _ _ ?_ (fun hHeld=>?_)
    ·exact ⟨(BD.out.cell (p:=⟨g,0,none⟩) H.out.x.lt).trans (H.out.x.cell 0),(BD.out.cell (p:=⟨g,2,none⟩) H.out.x.lt).trans (H.out.x.cell 2),(BD.out.cell (p:=⟨be,oe+e*2+1,none⟩) Fg.out).trans G.out⟩
    clear hK K;refine nL ?_
   case' VI =>
    rw [if_pos (by rfl)];go_simp;obtain ⟨U,hU⟩:∃ V,d.alloc (.cells #[.int .i64 0,.int .i64 0,.bool false] 66)=V:=⟨_,rfl⟩;have XP:=af (show BX U d.heap.size 66 [.int .i64 0,.int .i64 0,.bool false] from hU ▸ BX.new d _ _);obtain ⟨g7,Fh⟩:∃ g,d.heap.size=g:=⟨_,rfl⟩;rw [Fh] at XP ⊢;have hgd:d.heap.size≤g7:=by rw [←Fh];exact BD.out.size
    replace BD:=af (show Below d.heap.size d U from hU ▸ BD.out.alloc BD.out.size _)
    try rw [hU]
    clear hU Fh;refine hK.out _ _ ?_ (fun hHeld=>?_)
    ·exact ⟨(BD.out.cell (p:=⟨g,0,none⟩) H.out.x.lt).trans (H.out.x.cell 0),(BD.out.cell (p:=⟨g,2,none⟩) H.out.x.lt).trans (H.out.x.cell 2),(BD.out.cell (p:=⟨be,oe+e*2+1,none⟩) Fg.out).trans G.out⟩
    clear hK K;refine nL ?_;refine lI 9 (by kernel_rfl) rfl (fun K hK=>?_);rw [if_pos (by rfl)];go_simp;go_at_call 30;refine (ng k.mem R a' _ U (H.out.r.m.below BD.out) kG.out hR ha).mono ?_;rintro en UU ⟨rfl,hb⟩;rw [kS.out];unfold kM;replace BD:=af (BD.out.trans (hb.mono BD.out.size));replace XP:=af (XP.out.below hb);refine hK.out _ _ ?_ (fun hHeld=>?_)
    ·exact ⟨(BD.out.cell (p:=⟨g,0,none⟩) H.out.x.lt).trans (H.out.x.cell 0),(BD.out.cell (p:=⟨g,2,none⟩) H.out.x.lt).trans (H.out.x.cell 2),(BD.out.cell (p:=⟨be,oe+e*2+1,none⟩) Fg.out).trans G.out⟩
    clear hK K;refine nL ?_;refine tP 10 ?_;refine tP 11 ?_;refine tP 12 ?_
   all_goals
    obtain ⟨p0,p1,p2⟩:UU.cell? ⟨g7,0,none⟩=some (.int .i64 0)∧UU.cell? ⟨g7,1,none⟩=some (.int .i64 0)∧UU.cell? ⟨g7,2,none⟩=some (.bool false):=⟨XP.out.cell 0,XP.out.cell 1,XP.out.cell 2⟩;obtain ⟨z0,z1,z2⟩:UU.frozen? ⟨g7,0,none⟩=false∧UU.frozen? ⟨g7,1,none⟩=false∧UU.frozen? ⟨g7,2,none⟩=false:=⟨XP.out.frozen 0,XP.out.frozen 1,XP.out.frozen 2⟩;replace XP:=af (((XP.out.set 0 (.int .i64 f)).set 1 (.int .i64 c)).set 2 (.bool wt));replace BD:=af (((BD.out.setCell (p:=⟨g7,0,none⟩) hgd (.int .i64 f)).setCell (p:=⟨g7,1,none⟩) hgd (.int .i64 c)).setCell (p:=⟨g7,2,none⟩) hgd (.bool wt));refine lI 14 (by kernel_rfl) rfl (fun K hK=>?_);rw [if_pos (by rfl)];go_simp;refine hK.out _ _ ?_ (fun hHeld=>?_)
    ·exact ⟨(BD.out.cell (p:=⟨g,0,none⟩) H.out.x.lt).trans (H.out.x.cell 0),(BD.out.cell (p:=⟨g,2,none⟩) H.out.x.lt).trans (H.out.x.cell 2),(BD.out.cell (p:=⟨be,oe+e*2+1,none⟩) Fg.out).trans G.out⟩
    clear hK K;refine nL ?_;refine tP 15 ?_;refine gY (by kernel_rfl) ?_ _;obtain ⟨V,hV⟩:∃ V,((UU.setCell ⟨g7,0,none⟩ (.int .i64 f)).setCell ⟨g7,1,none⟩ (.int .i64 c)).setCell ⟨g7,2,none⟩ (.bool wt)=V:=⟨_,rfl⟩;rw [hV] at BD XP;replace XP:=af (show BX V g7 66 [.int .i64 f,.int .i64 c,.bool wt] from XP.out)
    try rw [hV]
    clear hV p0 p1 p2 z0 z1 z2 hHeld hgd;replace H:=af (H.out.go BD.out);obtain ⟨p0,p1,p2⟩:V.cell? ⟨g7,0,none⟩=some (.int .i64 (f:Int))∧V.cell? ⟨g7,1,none⟩=some (.int .i64 (c:Int))∧V.cell? ⟨g7,2,none⟩=some (.bool wt):=⟨XP.out.cell 0,XP.out.cell 1,XP.out.cell 2⟩;obtain ⟨c0,c1,c2,c3⟩:=H.out.x.c4;clear BD G Fg;go_wp2_with fail;clear c0 c1 c2 c3 p0 p1 p2;refine (Dz k.mem f c _ _ H.out.r.m kG.out hf hc).mono ?_;rintro en V2 ⟨rfl,hb⟩;replace H:=af (H.out.go hb);replace XP:=af (XP.out.below hb);clear hb;rw [Z4.out];obtain ⟨dd,hdd⟩:∃ d,V2.drew=d:=⟨_,rfl⟩;have VJ:Below V2.heap.size V2 dd:=hdd ▸ Below.bz fZ;have Hd:=af hdd;replace H:=af (H.out.go VJ);replace XP:=af (XP.out.below VJ);clear hdd VJ;go_wp2_with fail
    refine uu (S:=(fun U:World=>U.cell? ⟨g,0,none⟩=some (.slice a0 k.mem.length m0)∧U.cell? ⟨g,1,none⟩=some (.slice a1 k.ag.length m1)∧U.cell? ⟨g,2,none⟩=some (.slice (some ⟨be,oe,none⟩) k.ah.length m2)∧U.cell? ⟨g,3,none⟩=some (.slice a3 k.cache.length m3)∧U.cell? ⟨g7,0,none⟩=some (.int .i64 (f:Int)))) (xs:=[]) (by kernel_rfl) (by rw [Hd.out];exact ⟨H.out.x.cell 0,H.out.x.cell 1,H.out.x.cell 2,H.out.x.cell 3,XP.out.cell 0⟩) (fun hHeld=>?_)
    rw [Hd.out];rw [Hd.out] at hHeld;clear Hd;refine tP 0 ?_;refine tP 1 ?_;refine tP 2 ?_;refine tP 3 ?_;refine tP 4 ?_;refine tP 5 ?_;refine tP 6 ?_;refine tP 7 ?_;refine tP 8 ?_;refine tP 9 ?_;refine tP 10 ?_;refine tL 11 ?_;refine tP 12 ?_;refine tP 14 ?_;refine tL 15 ?_;refine lI 13 (by kernel_rfl) rfl (fun K hK=>?_);rw [if_pos (by rfl)];go_simp;go_at_call 33;refine (uw k (e:Int) _ _ _ _ _ H.out.r H.out.s).mono ?_;rintro en V5 ⟨u,rfl,ho,hb⟩;replace H:=af (H.out.go hb);replace XP:=af (XP.out.below hb);have HO:=af ho.ri;clear hb ho;refine hK.out _ _ ?_ (fun hHeld=>?_)
    ·exact ⟨H.out.x.cell 0,H.out.x.cell 1,H.out.x.cell 2,H.out.x.cell 3,XP.out.cell 0⟩
    clear hK K;refine nL ?_;refine lI 16 (by kernel_rfl) rfl (fun K hK=>?_);rw [if_pos (by rfl)];go_simp;go_at_call 32;refine (Jy _ _ _ _ HO.out).mono ?_;rintro en V6 ⟨rfl,rfl⟩;rw [jR.out];refine hK.out _ _ ?_ (fun hHeld=>?_)
    ·exact ⟨H.out.x.cell 0,H.out.x.cell 1,H.out.x.cell 2,H.out.x.cell 3,XP.out.cell 0⟩
    clear hK K;refine nL ?_;refine tP 17 ?_;refine tP 18 ?_;refine gY (by kernel_rfl) ?_ _;go_wp2_with fail;go_ret;exact ⟨rfl,H.out.b⟩
 have hI0:(1048576:Int)<(len0:Int):=by omega
 clear h0;go_enter Tryz.func6,Tryz.ntmps6;go_wp2_with fail;go_ret;exact ⟨rfl,Below.refl _ _⟩
end Go.Proofs.YtliebkfligagnaaGreatDoor
