/- Contracts: KernelSees of the reference and of the program. (printed by ki19.py) -/
import Derived.Test.YtliebkfligagnaaGreatDoorKI18
set_option maxHeartbeats 4000000
set_option maxRecDepth 100000
set_option linter.all false
namespace Go.Proofs.YtliebkfligagnaaGreatDoor
open Go.RowKit
theorem mJ {m:List (List Int)} {r ad:Nat} {f a:Int} {b:Bool} (h:Kx.walk m r ad=((f,a,b),0)):∃ (f' a':Nat),f=f'∧a=a'∧f'<12∧a'<4:=by
 unfold Kx.walk at h;split at h
 ·simp at h
 split at h
 ·simp at h
 rename_i t c he f' d he2
 simp only [Prod.mk.injEq] at h;obtain ⟨⟨h1,h2,_⟩,_⟩:=h;exact ⟨f',ad % 4,h1.symm,h2.symm,Kx.dU he2,Nat.mod_lt _ (by decide)⟩
theorem oG (k:Kx.Kernel) (env ad:Int) (vm vi ve vc:Value) (w:World) (h:RK w vm vi ve vc k) (hs:iQ k) :
  Calls Tryz.prog 27 #[.agg #[vm,vi,ve,vc],.int .i64 env,.int .i64 ad] w fun e w'=>e=.returned (.tuple #[.int .i64 (Kx.sees k env ad).1,.bool (Kx.sees k env ad).2])∧Below w.heap.size w w':=by
 obtain ⟨w0,hw0⟩:∃ w0,w.alloc (.cells #[vm,vi,ve,vc] 36)=w0:=⟨_,rfl⟩;have B0:=af (show Below w.heap.size w w0 from hw0 ▸ dm);have X0:=af (show BX w0 w.heap.size 36 [vm,vi,ve,vc] from (hw0 ▸ BX.new w _ _:BX w0 _ _ _));have HK:=af (h.below B0.out);obtain ⟨_,am,cm,rfl,_,_⟩:=h.m.len;obtain ⟨_,ae,ce,rfl,_,_⟩:=h.e.len;have HV:=af (show Kx.sees k env ad=if !Kx.az k||!Kx.bK env 0 2||!Kx.bK ad 0 63||decide ((Kx.au k.ah env.toNat).root<0) then (0,false)
 else match Kx.walk k.mem (Kx.au k.ah env.toNat).root.toNat ad.toNat with
  | ((f,a,_),c)=>if c=0 then (Kx.word k.mem f.toNat a.toNat,true) else (0,false) from rfl)
 have HC:=af (mX k _ vi _ vc w0 HK.out hs);obtain ⟨ans,hans⟩:∃ r,Kx.sees k env ad=r:=⟨_,rfl⟩;have pI:=af hans;rw [hans] at HV;obtain ⟨k0,k1,k2,k3⟩:=X0.out.c4;clear h hs hans;go_enter Tryz.func27,Tryz.ntmps27;go_wp2_with fail;clear hw0;refine HC.out.mono ?_;rintro e w1 ⟨rfl,hb⟩;replace B0:=af (B0.out.trans (hb.mono B0.out.size));replace X0:=af (X0.out.below hb);replace HK:=af (HK.out.below hb);clear hb HC k0 k1 k2 k3
 cases hv:Kx.az k with
 | false =>
  have HF:=af (show ans=(0,false) by rw [HV.out,hv];rfl);clear hv HV;go_wp2_with fail;go_ret2;exact ⟨by rw [pI.out,HF.out];rfl,B0.out⟩
 | true =>
  have V1:=af hv;clear hv;go_wp2_with fail;refine (BR _ _).mono ?_;rintro e w' ⟨rfl,rfl⟩
  cases hv:Kx.bK env 0 2 with
  | false =>
   have HF:=af (show ans=(0,false) by rw [HV.out,hv];simp);clear hv HV;go_wp2_with fail;go_ret2;exact ⟨by rw [pI.out,HF.out];rfl,B0.out⟩
  | true =>
   have V2:=af hv;clear hv;go_wp2_with fail;refine (qI _ _).mono ?_;rintro e w' ⟨rfl,rfl⟩
   cases hv:Kx.bK ad 0 63 with
   | false =>
    have HF:=af (show ans=(0,false) by rw [HV.out,hv];simp);clear hv HV;go_wp2_with fail;go_ret2;exact ⟨by rw [pI.out,HF.out];rfl,B0.out⟩
   | true =>
    obtain ⟨h0,h2⟩:=Kx.ay.1 V2.out;obtain ⟨n,rfl⟩:=Int.eq_ofNat_of_zero_le h0;obtain ⟨h0',h2'⟩:=Kx.ay.1 hv;obtain ⟨a,rfl⟩:=Int.eq_ofNat_of_zero_le h0';obtain ⟨hmo,jI,h12,hco,h3,hro⟩:=aI V1.out;have hn3:n<3:=by omega
    have mW:=af (hro n hn3);have zG:=af (show ans=if (Kx.au k.ah n).root<0 then (0,false) else match Kx.walk k.mem (Kx.au k.ah n).root.toNat a with | ((f,a,_),c)=>if c=0 then (Kx.word k.mem f.toNat a.toNat,true) else (0,false) by rw [HV.out,V1.out,V2.out,hv];simp)
    have MJ:(n:Int)<(k.ah.length:Int):=by omega
    obtain ⟨b,off,cap,u,ev,hbb,_,g2,_⟩:=HK.out.e.at (k:=n) (by omega);simp only [Value.slice.injEq] at ev;obtain ⟨rfl,_,rfl⟩:=ev;obtain ⟨k0,k1,k2,k3⟩:=X0.out.c4;have HM:=af HK.out.m;have kG:=af hmo;have Ha:=af (show a<64 by omega);clear hv HV h0 hmo jI h12 hco h3 hro hn3 h2 h0' h2' V1 V2;generalize (Kx.au k.ah n).root=r at g2 zG mW;have G2:=af g2
    by_cases hr:r<0
    ·have HF:=af (show ans=(0,false) by rw [zG.out,if_pos hr]);go_wp2_with fail;go_ret2;exact ⟨by rw [pI.out,HF.out];rfl,B0.out⟩
    obtain ⟨R,rfl⟩:=Int.eq_ofNat_of_zero_le (show 0≤r by omega);have HF:=af (show ans=match Kx.walk k.mem R a with | ((f,a,_),c)=>if c=0 then (Kx.word k.mem f.toNat a.toNat,true) else (0,false) by rw [zG.out,if_neg hr];rfl)
    have hR:R<12:=by have:=mW.out;omega
    have hrb:decide ((R:Int)<0)=false:=decide_eq_false hr;clear hr zG mW;go_wp2_with fail;obtain ⟨⟨⟨f,c,wr⟩,code⟩,hres⟩:∃ r,Kx.walk k.mem R a=r:=⟨_,rfl⟩;have kS:=af hres;rw [hres] at HF;obtain ⟨d,hd⟩:∃ d,w1.drew=d:=⟨_,rfl⟩;have Bd:Below w1.heap.size w1 d:=hd ▸ Below.bz fZ;have Hd:=af hd;replace B0:=af (B0.out.trans (Bd.mono B0.out.size));replace HM:=af (HM.out.below Bd);replace X0:=af (X0.out.below Bd);have Ua:=(Bd.cell (p:=⟨b,off+n*2+1,none⟩) hbb).trans g2;have hbd:=Nat.lt_of_lt_of_le hbb Bd.size;have GD:=af Ua;have lX:=af hbd;clear hd Bd hres k0 k1 k2 k3 g2 Ua G2 hbb hbd;have BD:=af (Below.refl d.heap.size d)
    refine uu (S:=(fun U:World=>U.cell? ⟨w.heap.size,0,none⟩=some (.slice am k.mem.length cm)∧U.cell? ⟨w.heap.size,2,none⟩=some (.slice (some ⟨b,off,none⟩) k.ah.length ce)∧U.cell? ⟨b,off+n*2+1,none⟩=some (.int .i64 (R:Int)))) (xs:=[]) (by kernel_rfl) (by rw [Hd.out];exact ⟨(X0.out.below BD.out).cell 0,(X0.out.below BD.out).cell 2,(BD.out.cell (p:=⟨b,off+n*2+1,none⟩) lX.out).trans GD.out⟩) (fun hHeld=>?_)
    rw [Hd.out];rw [Hd.out] at hHeld;refine tP 0 ?_;refine tL 1 ?_;refine tP 2 ?_;refine tL 3 ?_;refine tP 4 ?_;refine tP 5 ?_;refine tP 6 ?_;refine tL 7 ?_;refine tP 8 ?_;refine MV 9 13 (by kernel_rfl) rfl rfl (fun K hK=>?_) (fun K hK=>?_)
    ·rw [if_pos (by rfl)];go_simp;go_at_call 70;refine (o_ k.mem R a _ d (HM.out.below BD.out) kG.out hR Ha.out).mono ?_;rintro en V1 ⟨rfl,hb⟩;rw [kS.out];unfold kM;replace BD:=af (BD.out.trans (hb.mono BD.out.size));refine hK.out _ _ ?_ (fun hHeld=>?_)
     ·exact ⟨(X0.out.below BD.out).cell 0,(X0.out.below BD.out).cell 2,(BD.out.cell (p:=⟨b,off+n*2+1,none⟩) lX.out).trans GD.out⟩
     clear hK K;refine nL ?_;refine tP 10 ?_;refine tP 11 ?_;refine tP 12 ?_;refine lI 13 (by kernel_rfl) rfl (fun K hK=>?_);rw [if_pos (by rfl)];go_simp;obtain ⟨U,hU⟩:∃ V,V1.alloc (.cells #[.int .i64 0,.int .i64 0,.bool false] 66)=V:=⟨_,rfl⟩;have XP:=af (show BX U V1.heap.size 66 [.int .i64 0,.int .i64 0,.bool false] from hU ▸ BX.new V1 _ _);obtain ⟨g,hg⟩:∃ g,V1.heap.size=g:=⟨_,rfl⟩;rw [hg] at XP ⊢;have hgd:d.heap.size≤g:=by rw [←hg];exact BD.out.size
     replace BD:=af (show Below d.heap.size d U from hU ▸ BD.out.alloc BD.out.size _)
     try rw [hU]
     clear hU hg;refine hK.out _ _ ?_ (fun hHeld=>?_)
     ·exact ⟨(X0.out.below BD.out).cell 0,(X0.out.below BD.out).cell 2,(BD.out.cell (p:=⟨b,off+n*2+1,none⟩) lX.out).trans GD.out⟩
     clear hK K;refine nL ?_;obtain ⟨p0,p1,p2⟩:U.cell? ⟨g,0,none⟩=some (.int .i64 0)∧U.cell? ⟨g,1,none⟩=some (.int .i64 0)∧U.cell? ⟨g,2,none⟩=some (.bool false):=⟨XP.out.cell 0,XP.out.cell 1,XP.out.cell 2⟩;obtain ⟨z0,z1,z2⟩:U.frozen? ⟨g,0,none⟩=false∧U.frozen? ⟨g,1,none⟩=false∧U.frozen? ⟨g,2,none⟩=false:=⟨XP.out.frozen 0,XP.out.frozen 1,XP.out.frozen 2⟩;replace XP:=af (((XP.out.set 0 (.int .i64 f)).set 1 (.int .i64 c)).set 2 (.bool wr));replace BD:=af (((BD.out.setCell (p:=⟨g,0,none⟩) hgd (.int .i64 f)).setCell (p:=⟨g,1,none⟩) hgd (.int .i64 c)).setCell (p:=⟨g,2,none⟩) hgd (.bool wr));refine lI 14 (by kernel_rfl) rfl (fun K hK=>?_);rw [if_pos (by rfl)];go_simp;refine hK.out _ _ ?_ (fun hHeld=>?_)
     ·exact ⟨(X0.out.below BD.out).cell 0,(X0.out.below BD.out).cell 2,(BD.out.cell (p:=⟨b,off+n*2+1,none⟩) lX.out).trans GD.out⟩
     clear hK K;refine nL ?_;refine tP 15 ?_;refine gY (by kernel_rfl) ?_ _;obtain ⟨V,hV⟩:∃ V,((U.setCell ⟨g,0,none⟩ (.int .i64 f)).setCell ⟨g,1,none⟩ (.int .i64 c)).setCell ⟨g,2,none⟩ (.bool wr)=V:=⟨_,rfl⟩;rw [hV] at BD XP
     try rw [hV]
     clear hV p0 p1 p2 z0 z1 z2 hHeld;replace B0:=af (B0.out.trans (BD.out.mono B0.out.size));replace HM:=af (HM.out.below BD.out);replace X0:=af (X0.out.below BD.out);clear BD GD lX Hd
     by_cases hc:code=0
     ·subst hc;obtain ⟨f,c,rfl,rfl,hf,hc4⟩:=mJ kS.out;obtain ⟨b1,FI,cap1,b2,mP,cap2,ev,q1,q2,q3,q4⟩:=HM.out.word kG.out hf hc4;simp only [Value.slice.injEq] at ev;obtain ⟨rfl,hl,rfl⟩:=ev;have HA:=af (show ans=(Kx.word k.mem f c,true) by rw [HF.out];simp);obtain ⟨k0,k1,k2,k3⟩:=X0.out.c4;obtain ⟨p0,p1,p2⟩:V.cell? ⟨g,0,none⟩=some (.int .i64 f)∧V.cell? ⟨g,1,none⟩=some (.int .i64 c)∧V.cell? ⟨g,2,none⟩=some (.bool wr):=⟨XP.out.cell 0,XP.out.cell 1,XP.out.cell 2⟩;rw [hl] at k0;have wJ:(f:Int)<12:=by omega
      have hcI:(c:Int)<4:=by omega
      generalize Kx.word k.mem f c=x at q2 q3 q4 HA;clear HF kS hl;go_wp2_with fail;go_quiet (fail);go_wp2_with fail;go_ret2;exact ⟨by rw [pI.out,HA.out];rfl,below_drewN B0.out _⟩
     have hcb:(code != 0)=true:=by simpa using hc
     have HA:=af (show ans=(0,false) by rw [HF.out];simp [hc]);clear HF kS hc;go_wp2_with fail;go_ret2;exact ⟨by rw [pI.out,HA.out];rfl,B0.out⟩
    rw [if_pos (by rfl)];go_simp;obtain ⟨U,hU⟩:∃ V,d.alloc (.cells #[.int .i64 0,.int .i64 0,.bool false] 66)=V:=⟨_,rfl⟩;have XP:=af (show BX U d.heap.size 66 [.int .i64 0,.int .i64 0,.bool false] from hU ▸ BX.new d _ _);obtain ⟨g,hg⟩:∃ g,d.heap.size=g:=⟨_,rfl⟩;rw [hg] at XP ⊢;have hgd:d.heap.size≤g:=by rw [←hg];exact BD.out.size
    replace BD:=af (show Below d.heap.size d U from hU ▸ BD.out.alloc BD.out.size _)
    try rw [hU]
    clear hU hg;refine hK.out _ _ ?_ (fun hHeld=>?_)
    ·exact ⟨(X0.out.below BD.out).cell 0,(X0.out.below BD.out).cell 2,(BD.out.cell (p:=⟨b,off+n*2+1,none⟩) lX.out).trans GD.out⟩
    clear hK K;refine nL ?_;refine lI 9 (by kernel_rfl) rfl (fun K hK=>?_);rw [if_pos (by rfl)];go_simp;go_at_call 70;refine (o_ k.mem R a _ U (HM.out.below BD.out) kG.out hR Ha.out).mono ?_;rintro en V1 ⟨rfl,hb⟩;rw [kS.out];unfold kM;replace BD:=af (BD.out.trans (hb.mono BD.out.size));replace XP:=af (XP.out.below hb);refine hK.out _ _ ?_ (fun hHeld=>?_)
    ·exact ⟨(X0.out.below BD.out).cell 0,(X0.out.below BD.out).cell 2,(BD.out.cell (p:=⟨b,off+n*2+1,none⟩) lX.out).trans GD.out⟩
    clear hK K;refine nL ?_;refine tP 10 ?_;refine tP 11 ?_;refine tP 12 ?_;obtain ⟨p0,p1,p2⟩:V1.cell? ⟨g,0,none⟩=some (.int .i64 0)∧V1.cell? ⟨g,1,none⟩=some (.int .i64 0)∧V1.cell? ⟨g,2,none⟩=some (.bool false):=⟨XP.out.cell 0,XP.out.cell 1,XP.out.cell 2⟩;obtain ⟨z0,z1,z2⟩:V1.frozen? ⟨g,0,none⟩=false∧V1.frozen? ⟨g,1,none⟩=false∧V1.frozen? ⟨g,2,none⟩=false:=⟨XP.out.frozen 0,XP.out.frozen 1,XP.out.frozen 2⟩;replace XP:=af (((XP.out.set 0 (.int .i64 f)).set 1 (.int .i64 c)).set 2 (.bool wr));replace BD:=af (((BD.out.setCell (p:=⟨g,0,none⟩) hgd (.int .i64 f)).setCell (p:=⟨g,1,none⟩) hgd (.int .i64 c)).setCell (p:=⟨g,2,none⟩) hgd (.bool wr));refine lI 14 (by kernel_rfl) rfl (fun K hK=>?_);rw [if_pos (by rfl)];go_simp;refine hK.out _ _ ?_ (fun hHeld=>?_)
    ·exact ⟨(X0.out.below BD.out).cell 0,(X0.out.below BD.out).cell 2,(BD.out.cell (p:=⟨b,off+n*2+1,none⟩) lX.out).trans GD.out⟩
    clear hK K;refine nL ?_;refine tP 15 ?_;refine gY (by kernel_rfl) ?_ _;obtain ⟨V,hV⟩:∃ V,((V1.setCell ⟨g,0,none⟩ (.int .i64 f)).setCell ⟨g,1,none⟩ (.int .i64 c)).setCell ⟨g,2,none⟩ (.bool wr)=V:=⟨_,rfl⟩;rw [hV] at BD XP
    try rw [hV]
    clear hV p0 p1 p2 z0 z1 z2 hHeld;replace B0:=af (B0.out.trans (BD.out.mono B0.out.size));replace HM:=af (HM.out.below BD.out);replace X0:=af (X0.out.below BD.out);clear BD GD lX Hd
    by_cases hc:code=0
    ·subst hc;obtain ⟨f,c,rfl,rfl,hf,hc4⟩:=mJ kS.out;obtain ⟨b1,FI,cap1,b2,mP,cap2,ev,q1,q2,q3,q4⟩:=HM.out.word kG.out hf hc4;simp only [Value.slice.injEq] at ev;obtain ⟨rfl,hl,rfl⟩:=ev;have HA:=af (show ans=(Kx.word k.mem f c,true) by rw [HF.out];simp);obtain ⟨k0,k1,k2,k3⟩:=X0.out.c4;obtain ⟨p0,p1,p2⟩:V.cell? ⟨g,0,none⟩=some (.int .i64 f)∧V.cell? ⟨g,1,none⟩=some (.int .i64 c)∧V.cell? ⟨g,2,none⟩=some (.bool wr):=⟨XP.out.cell 0,XP.out.cell 1,XP.out.cell 2⟩;rw [hl] at k0;have wJ:(f:Int)<12:=by omega
     have hcI:(c:Int)<4:=by omega
     generalize Kx.word k.mem f c=x at q2 q3 q4 HA;clear HF kS hl;go_wp2_with fail;go_quiet (fail);go_wp2_with fail;go_ret2;exact ⟨by rw [pI.out,HA.out];rfl,below_drewN B0.out _⟩
    have hcb:(code != 0)=true:=by simpa using hc
    have HA:=af (show ans=(0,false) by rw [HF.out];simp [hc]);clear HF kS hc;go_wp2_with fail;go_ret2;exact ⟨by rw [pI.out,HA.out];rfl,B0.out⟩
theorem kY (k:Kx.Kernel) (env ad:Int) (vm vi ve vc:Value) (w:World) (h:RK w vm vi ve vc k) (hs:iQ k) :
  Calls Tryz.prog 28 #[.agg #[vm,vi,ve,vc],.int .i64 env,.int .i64 ad] w fun e w'=>e=.returned (.tuple #[.int .i64 (Kx.sees k env ad).1,.bool (Kx.sees k env ad).2])∧Below w.heap.size w w':=by
 obtain ⟨w0,hw0⟩:∃ w0,w.alloc (.cells #[vm,vi,ve,vc] 36)=w0:=⟨_,rfl⟩;have B0:=af (show Below w.heap.size w w0 from hw0 ▸ dm);have X0:=af (show BX w0 w.heap.size 36 [vm,vi,ve,vc] from (hw0 ▸ BX.new w _ _:BX w0 _ _ _));have HK:=af (h.below B0.out);obtain ⟨_,am,cm,rfl,_,_⟩:=h.m.len;obtain ⟨_,ae,ce,rfl,_,_⟩:=h.e.len;have HV:=af (show Kx.sees k env ad=if !Kx.az k||!Kx.bK env 0 2||!Kx.bK ad 0 63||decide ((Kx.au k.ah env.toNat).root<0) then (0,false)
 else match Kx.walk k.mem (Kx.au k.ah env.toNat).root.toNat ad.toNat with
  | ((f,a,_),c)=>if c=0 then (Kx.word k.mem f.toNat a.toNat,true) else (0,false) from rfl)
 have HC:=af (kJ k _ vi _ vc w0 HK.out hs);obtain ⟨ans,hans⟩:∃ r,Kx.sees k env ad=r:=⟨_,rfl⟩;have pI:=af hans;rw [hans] at HV;obtain ⟨k0,k1,k2,k3⟩:=X0.out.c4;clear h hs hans;go_enter Tryz.func28,Tryz.ntmps28;go_wp2_with fail;clear hw0;refine HC.out.mono ?_;rintro e w1 ⟨rfl,hb⟩;replace B0:=af (B0.out.trans (hb.mono B0.out.size));replace X0:=af (X0.out.below hb);replace HK:=af (HK.out.below hb);clear hb HC k0 k1 k2 k3
 cases hv:Kx.az k with
 | false =>
  have HF:=af (show ans=(0,false) by rw [HV.out,hv];rfl);clear hv HV;go_wp2_with fail;go_ret2;exact ⟨by rw [pI.out,HF.out];rfl,B0.out⟩
 | true =>
  have V1:=af hv;clear hv;go_wp2_with fail;refine (qZ _ _).mono ?_;rintro e w' ⟨rfl,rfl⟩
  cases hv:Kx.bK env 0 2 with
  | false =>
   have HF:=af (show ans=(0,false) by rw [HV.out,hv];simp);clear hv HV;go_wp2_with fail;go_ret2;exact ⟨by rw [pI.out,HF.out];rfl,B0.out⟩
  | true =>
   have V2:=af hv;clear hv;go_wp2_with fail;refine (kC _ _).mono ?_;rintro e w' ⟨rfl,rfl⟩
   cases hv:Kx.bK ad 0 63 with
   | false =>
    have HF:=af (show ans=(0,false) by rw [HV.out,hv];simp);clear hv HV;go_wp2_with fail;go_ret2;exact ⟨by rw [pI.out,HF.out];rfl,B0.out⟩
   | true =>
    obtain ⟨h0,h2⟩:=Kx.ay.1 V2.out;obtain ⟨n,rfl⟩:=Int.eq_ofNat_of_zero_le h0;obtain ⟨h0',h2'⟩:=Kx.ay.1 hv;obtain ⟨a,rfl⟩:=Int.eq_ofNat_of_zero_le h0';obtain ⟨hmo,jI,h12,hco,h3,hro⟩:=aI V1.out;have hn3:n<3:=by omega
    have mW:=af (hro n hn3);have zG:=af (show ans=if (Kx.au k.ah n).root<0 then (0,false) else match Kx.walk k.mem (Kx.au k.ah n).root.toNat a with | ((f,a,_),c)=>if c=0 then (Kx.word k.mem f.toNat a.toNat,true) else (0,false) by rw [HV.out,V1.out,V2.out,hv];simp)
    have MJ:(n:Int)<(k.ah.length:Int):=by omega
    obtain ⟨b,off,cap,u,ev,hbb,_,g2,_⟩:=HK.out.e.at (k:=n) (by omega);simp only [Value.slice.injEq] at ev;obtain ⟨rfl,_,rfl⟩:=ev;obtain ⟨k0,k1,k2,k3⟩:=X0.out.c4;have HM:=af HK.out.m;have kG:=af hmo;have Ha:=af (show a<64 by omega);clear hv HV h0 hmo jI h12 hco h3 hro hn3 h2 h0' h2' V1 V2;generalize (Kx.au k.ah n).root=r at g2 zG mW;have G2:=af g2
    by_cases hr:r<0
    ·have HF:=af (show ans=(0,false) by rw [zG.out,if_pos hr]);go_wp2_with fail;go_ret2;exact ⟨by rw [pI.out,HF.out];rfl,B0.out⟩
    obtain ⟨R,rfl⟩:=Int.eq_ofNat_of_zero_le (show 0≤r by omega);have HF:=af (show ans=match Kx.walk k.mem R a with | ((f,a,_),c)=>if c=0 then (Kx.word k.mem f.toNat a.toNat,true) else (0,false) by rw [zG.out,if_neg hr];rfl)
    have hR:R<12:=by have:=mW.out;omega
    have hrb:decide ((R:Int)<0)=false:=decide_eq_false hr;clear hr zG mW;go_wp2_with fail;obtain ⟨⟨⟨f,c,wr⟩,code⟩,hres⟩:∃ r,Kx.walk k.mem R a=r:=⟨_,rfl⟩;have kS:=af hres;rw [hres] at HF;obtain ⟨d,hd⟩:∃ d,w1.drew=d:=⟨_,rfl⟩;have Bd:Below w1.heap.size w1 d:=hd ▸ Below.bz fZ;have Hd:=af hd;replace B0:=af (B0.out.trans (Bd.mono B0.out.size));replace HM:=af (HM.out.below Bd);replace X0:=af (X0.out.below Bd);have Ua:=(Bd.cell (p:=⟨b,off+n*2+1,none⟩) hbb).trans g2;have hbd:=Nat.lt_of_lt_of_le hbb Bd.size;have GD:=af Ua;have lX:=af hbd;clear hd Bd hres k0 k1 k2 k3 g2 Ua G2 hbb hbd;have BD:=af (Below.refl d.heap.size d)
    refine uu (S:=(fun U:World=>U.cell? ⟨w.heap.size,0,none⟩=some (.slice am k.mem.length cm)∧U.cell? ⟨w.heap.size,2,none⟩=some (.slice (some ⟨b,off,none⟩) k.ah.length ce)∧U.cell? ⟨b,off+n*2+1,none⟩=some (.int .i64 (R:Int)))) (xs:=[]) (by kernel_rfl) (by rw [Hd.out];exact ⟨(X0.out.below BD.out).cell 0,(X0.out.below BD.out).cell 2,(BD.out.cell (p:=⟨b,off+n*2+1,none⟩) lX.out).trans GD.out⟩) (fun hHeld=>?_)
    rw [Hd.out];rw [Hd.out] at hHeld;refine tP 0 ?_;refine tL 1 ?_;refine tP 2 ?_;refine tL 3 ?_;refine tP 4 ?_;refine tP 5 ?_;refine tP 6 ?_;refine tL 7 ?_;refine tP 8 ?_;refine MV 9 13 (by kernel_rfl) rfl rfl (fun K hK=>?_) (fun K hK=>?_)
    ·rw [if_pos (by rfl)];go_simp;go_at_call 72;refine (uy k.mem R a _ d (HM.out.below BD.out) kG.out hR Ha.out).mono ?_;rintro en V1 ⟨rfl,hb⟩;rw [kS.out];unfold kM;replace BD:=af (BD.out.trans (hb.mono BD.out.size));refine hK.out _ _ ?_ (fun hHeld=>?_)
     ·exact ⟨(X0.out.below BD.out).cell 0,(X0.out.below BD.out).cell 2,(BD.out.cell (p:=⟨b,off+n*2+1,none⟩) lX.out).trans GD.out⟩
     clear hK K;refine nL ?_;refine tP 10 ?_;refine tP 11 ?_;refine tP 12 ?_;refine lI 13 (by kernel_rfl) rfl (fun K hK=>?_);rw [if_pos (by rfl)];go_simp;obtain ⟨U,hU⟩:∃ V,V1.alloc (.cells #[.int .i64 0,.int .i64 0,.bool false] 66)=V:=⟨_,rfl⟩;have XP:=af (show BX U V1.heap.size 66 [.int .i64 0,.int .i64 0,.bool false] from hU ▸ BX.new V1 _ _);obtain ⟨g,hg⟩:∃ g,V1.heap.size=g:=⟨_,rfl⟩;rw [hg] at XP ⊢;have hgd:d.heap.size≤g:=by rw [←hg];exact BD.out.size
     replace BD:=af (show Below d.heap.size d U from hU ▸ BD.out.alloc BD.out.size _)
     try rw [hU]
     clear hU hg;refine hK.out _ _ ?_ (fun hHeld=>?_)
     ·exact ⟨(X0.out.below BD.out).cell 0,(X0.out.below BD.out).cell 2,(BD.out.cell (p:=⟨b,off+n*2+1,none⟩) lX.out).trans GD.out⟩
     clear hK K;refine nL ?_;obtain ⟨p0,p1,p2⟩:U.cell? ⟨g,0,none⟩=some (.int .i64 0)∧U.cell? ⟨g,1,none⟩=some (.int .i64 0)∧U.cell? ⟨g,2,none⟩=some (.bool false):=⟨XP.out.cell 0,XP.out.cell 1,XP.out.cell 2⟩;obtain ⟨z0,z1,z2⟩:U.frozen? ⟨g,0,none⟩=false∧U.frozen? ⟨g,1,none⟩=false∧U.frozen? ⟨g,2,none⟩=false:=⟨XP.out.frozen 0,XP.out.frozen 1,XP.out.frozen 2⟩;replace XP:=af (((XP.out.set 0 (.int .i64 f)).set 1 (.int .i64 c)).set 2 (.bool wr));replace BD:=af (((BD.out.setCell (p:=⟨g,0,none⟩) hgd (.int .i64 f)).setCell (p:=⟨g,1,none⟩) hgd (.int .i64 c)).setCell (p:=⟨g,2,none⟩) hgd (.bool wr));refine lI 14 (by kernel_rfl) rfl (fun K hK=>?_);rw [if_pos (by rfl)];go_simp;refine hK.out _ _ ?_ (fun hHeld=>?_)
     ·exact ⟨(X0.out.below BD.out).cell 0,(X0.out.below BD.out).cell 2,(BD.out.cell (p:=⟨b,off+n*2+1,none⟩) lX.out).trans GD.out⟩
     clear hK K;refine nL ?_;refine tP 15 ?_;refine gY (by kernel_rfl) ?_ _;obtain ⟨V,hV⟩:∃ V,((U.setCell ⟨g,0,none⟩ (.int .i64 f)).setCell ⟨g,1,none⟩ (.int .i64 c)).setCell ⟨g,2,none⟩ (.bool wr)=V:=⟨_,rfl⟩;rw [hV] at BD XP
     try rw [hV]
     clear hV p0 p1 p2 z0 z1 z2 hHeld;replace B0:=af (B0.out.trans (BD.out.mono B0.out.size));replace HM:=af (HM.out.below BD.out);replace X0:=af (X0.out.below BD.out);clear BD GD lX Hd
     by_cases hc:code=0
     ·subst hc;obtain ⟨f,c,rfl,rfl,hf,hc4⟩:=mJ kS.out;obtain ⟨b1,FI,cap1,b2,mP,cap2,ev,q1,q2,q3,q4⟩:=HM.out.word kG.out hf hc4;simp only [Value.slice.injEq] at ev;obtain ⟨rfl,hl,rfl⟩:=ev;have HA:=af (show ans=(Kx.word k.mem f c,true) by rw [HF.out];simp);obtain ⟨k0,k1,k2,k3⟩:=X0.out.c4;obtain ⟨p0,p1,p2⟩:V.cell? ⟨g,0,none⟩=some (.int .i64 f)∧V.cell? ⟨g,1,none⟩=some (.int .i64 c)∧V.cell? ⟨g,2,none⟩=some (.bool wr):=⟨XP.out.cell 0,XP.out.cell 1,XP.out.cell 2⟩;rw [hl] at k0;have wJ:(f:Int)<12:=by omega
      have hcI:(c:Int)<4:=by omega
      generalize Kx.word k.mem f c=x at q2 q3 q4 HA;clear HF kS hl;go_wp2_with fail;go_quiet (fail);go_wp2_with fail;go_ret2;exact ⟨by rw [pI.out,HA.out];rfl,below_drewN B0.out _⟩
     have hcb:(code != 0)=true:=by simpa using hc
     have HA:=af (show ans=(0,false) by rw [HF.out];simp [hc]);clear HF kS hc;go_wp2_with fail;go_ret2;exact ⟨by rw [pI.out,HA.out];rfl,B0.out⟩
    rw [if_pos (by rfl)];go_simp;obtain ⟨U,hU⟩:∃ V,d.alloc (.cells #[.int .i64 0,.int .i64 0,.bool false] 66)=V:=⟨_,rfl⟩;have XP:=af (show BX U d.heap.size 66 [.int .i64 0,.int .i64 0,.bool false] from hU ▸ BX.new d _ _);obtain ⟨g,hg⟩:∃ g,d.heap.size=g:=⟨_,rfl⟩;rw [hg] at XP ⊢;have hgd:d.heap.size≤g:=by rw [←hg];exact BD.out.size
    replace BD:=af (show Below d.heap.size d U from hU ▸ BD.out.alloc BD.out.size _)
    try rw [hU]
    clear hU hg;refine hK.out _ _ ?_ (fun hHeld=>?_)
    ·exact ⟨(X0.out.below BD.out).cell 0,(X0.out.below BD.out).cell 2,(BD.out.cell (p:=⟨b,off+n*2+1,none⟩) lX.out).trans GD.out⟩
    clear hK K;refine nL ?_;refine lI 9 (by kernel_rfl) rfl (fun K hK=>?_);rw [if_pos (by rfl)];go_simp;go_at_call 72;refine (uy k.mem R a _ U (HM.out.below BD.out) kG.out hR Ha.out).mono ?_;rintro en V1 ⟨rfl,hb⟩;rw [kS.out];unfold kM;replace BD:=af (BD.out.trans (hb.mono BD.out.size));replace XP:=af (XP.out.below hb);refine hK.out _ _ ?_ (fun hHeld=>?_)
    ·exact ⟨(X0.out.below BD.out).cell 0,(X0.out.below BD.out).cell 2,(BD.out.cell (p:=⟨b,off+n*2+1,none⟩) lX.out).trans GD.out⟩
    clear hK K;refine nL ?_;refine tP 10 ?_;refine tP 11 ?_;refine tP 12 ?_;obtain ⟨p0,p1,p2⟩:V1.cell? ⟨g,0,none⟩=some (.int .i64 0)∧V1.cell? ⟨g,1,none⟩=some (.int .i64 0)∧V1.cell? ⟨g,2,none⟩=some (.bool false):=⟨XP.out.cell 0,XP.out.cell 1,XP.out.cell 2⟩;obtain ⟨z0,z1,z2⟩:V1.frozen? ⟨g,0,none⟩=false∧V1.frozen? ⟨g,1,none⟩=false∧V1.frozen? ⟨g,2,none⟩=false:=⟨XP.out.frozen 0,XP.out.frozen 1,XP.out.frozen 2⟩;replace XP:=af (((XP.out.set 0 (.int .i64 f)).set 1 (.int .i64 c)).set 2 (.bool wr));replace BD:=af (((BD.out.setCell (p:=⟨g,0,none⟩) hgd (.int .i64 f)).setCell (p:=⟨g,1,none⟩) hgd (.int .i64 c)).setCell (p:=⟨g,2,none⟩) hgd (.bool wr));refine lI 14 (by kernel_rfl) rfl (fun K hK=>?_);rw [if_pos (by rfl)];go_simp;refine hK.out _ _ ?_ (fun hHeld=>?_)
    ·exact ⟨(X0.out.below BD.out).cell 0,(X0.out.below BD.out).cell 2,(BD.out.cell (p:=⟨b,off+n*2+1,none⟩) lX.out).trans GD.out⟩
    clear hK K;refine nL ?_;refine tP 15 ?_;refine gY (by kernel_rfl) ?_ _;obtain ⟨V,hV⟩:∃ V,((V1.setCell ⟨g,0,none⟩ (.int .i64 f)).setCell ⟨g,1,none⟩ (.int .i64 c)).setCell ⟨g,2,none⟩ (.bool wr)=V:=⟨_,rfl⟩;rw [hV] at BD XP
    try rw [hV]
    clear hV p0 p1 p2 z0 z1 z2 hHeld;replace B0:=af (B0.out.trans (BD.out.mono B0.out.size));replace HM:=af (HM.out.below BD.out);replace X0:=af (X0.out.below BD.out);clear BD GD lX Hd
    by_cases hc:code=0
    ·subst hc;obtain ⟨f,c,rfl,rfl,hf,hc4⟩:=mJ kS.out;obtain ⟨b1,FI,cap1,b2,mP,cap2,ev,q1,q2,q3,q4⟩:=HM.out.word kG.out hf hc4;simp only [Value.slice.injEq] at ev;obtain ⟨rfl,hl,rfl⟩:=ev;have HA:=af (show ans=(Kx.word k.mem f c,true) by rw [HF.out];simp);obtain ⟨k0,k1,k2,k3⟩:=X0.out.c4;obtain ⟨p0,p1,p2⟩:V.cell? ⟨g,0,none⟩=some (.int .i64 f)∧V.cell? ⟨g,1,none⟩=some (.int .i64 c)∧V.cell? ⟨g,2,none⟩=some (.bool wr):=⟨XP.out.cell 0,XP.out.cell 1,XP.out.cell 2⟩;rw [hl] at k0;have wJ:(f:Int)<12:=by omega
     have hcI:(c:Int)<4:=by omega
     generalize Kx.word k.mem f c=x at q2 q3 q4 HA;clear HF kS hl;go_wp2_with fail;go_quiet (fail);go_wp2_with fail;go_ret2;exact ⟨by rw [pI.out,HA.out];rfl,below_drewN B0.out _⟩
    have hcb:(code != 0)=true:=by simpa using hc
    have HA:=af (show ans=(0,false) by rw [HF.out];simp [hc]);clear HF kS hc;go_wp2_with fail;go_ret2;exact ⟨by rw [pI.out,HA.out];rfl,B0.out⟩
end Go.Proofs.YtliebkfligagnaaGreatDoor
