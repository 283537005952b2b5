/- The law FnExactKernelCall. -/
import Derived.Test.YthcmmoibpgcgaaaGreatDoorLKXh
set_option linter.all false
set_option maxHeartbeats 8000000
set_option maxRecDepth 100000
open Go.Proofs.Tryz
namespace Go.Proofs.YthcmmoibpgcgaaaGreatDoor
open Go.RowKit Kx

theorem FnExactKernelCall_c (k:Kx.Kernel) (c:Kx.Call) (vm vi ve vc:Value) (w:World) (h:Uw w vm vi ve vc k) (hs:CZ k) (eG:c.name.size<=9223372036854775807) (eH:c.c<=9223372036854775807):Calls prog 8 #[.agg #[vm,vi,ve,vc],dW c] w (Yes w):=by
 obtain ⟨bQ,JF,ca,cb,cc,bg⟩:=c;obtain ⟨wa,dN⟩:=XP (w.alloc (.cells #[vm,vi,ve,vc] 65));obtain ⟨wb,dS⟩:=XP (wa.alloc (.cells #[I_ bQ,I_ JF,I_ ca,I_ cb,I_ cc,.string bg] 66));have dX:=af (show Below w.heap.size w wa from dN ▸ dm);have Bb:=af (show Below wa.heap.size wa wb from dS ▸ dm);have X0:=af (show BX wb w.heap.size 65 [vm,vi,ve,vc] from (dN ▸ BX.new w _ _:BX wa _ _ _).below Bb.o);have X1:=af (show BX wb wa.heap.size 66 [I_ bQ,I_ JF,I_ ca,I_ cb,I_ cc,.string bg] from dS ▸ BX.new wa _ _);have Bw:=af (dX.o.trans (Bb.o.mono dX.o.size));have H:=af h;have Hs:=af hs;have Jr:=af eG;have Vd:=af eH;clear h hs eG eH
 have HC:=af (show Calls prog 29 #[.agg #[vm,vi,ve,vc],I_ 1048576] wb (Sz 1048576 (nK k) wb) from QQ k vm vi ve vc wb (H.o.below Bw.o) Hs.o 1048576 aW);have p0:=X0.o.c4;unfold dW;go_enter func8,ntmps8;go_wp2_with fail;clear p0 dN dS;refine HC.o.mono ?_;rintro e w1 ⟨rfl,hb⟩;clear HC;replace X0:=af (X0.o.below hb);replace X1:=af (X1.o.below hb);replace Bw:=af (Bw.o.trans (hb.mono Bw.o.size));clear hb
 by_cases dA:1048576<nK k
 ·rw [gQ dA];clear dA;go_wp2_with fail;go_ret;exact ⟨rfl,Bw.o⟩
 rw [iJ (by omega)];obtain ⟨hr,hn⟩:=H.o.rk (by omega);have HR:=af hr;have HN:=af hn;have PS:=af Hs.o.PI;have dY:=af (few_small (k:=k) (by omega));have dJ:¬ ((1048576 - nK k:Nat):Int)<0:=by omega
 have dU:1048576 - nK k<=1048576:=by omega
 generalize 1048576 - nK k=left at dJ dU ⊢;clear hr hn dA H Hs;have MN:=af dU;clear dU;have HC:=af (szCall_c ⟨bQ,JF,ca,cb,cc,bg⟩ left w1 Jr.o MN.o);unfold dW at HC;have q0:=X1.o.c6;go_wp2_with fail;clear q0 dJ;refine HC.o.mono ?_;rintro e w2 ⟨rfl,hb⟩;clear HC;replace X0:=af (X0.o.below hb);replace X1:=af (X1.o.below hb);replace Bw:=af (Bw.o.trans (hb.mono Bw.o.size));clear hb
 by_cases dA:left<bg.size
 ·rw [gQ (show left<(⟨bQ,JF,ca,cb,cc,bg⟩:Kx.Call).name.size from dA)];clear dA;go_wp2_with fail;go_ret;exact ⟨rfl,Bw.o⟩
 rw [iJ (show (⟨bQ,JF,ca,cb,cc,bg⟩:Kx.Call).name.size<=left from Nat.not_lt.1 dA)];have dJ:¬ ((left - (⟨bQ,JF,ca,cb,cc,bg⟩:Kx.Call).name.size:Nat):Int)<0:=by omega
 generalize left - (⟨bQ,JF,ca,cb,cc,bg⟩:Kx.Call).name.size=dZ at dJ ⊢;clear dA MN;obtain ⟨⟨e0,en0,eQ,rfl⟩,⟨e1,eU,eX,rfl⟩,⟨e2,eY,fA,rfl⟩,⟨e3,fB,fC,rfl⟩⟩:=HR.o.slc;obtain ⟨gk,hgk⟩:∃ g,w.heap.size=g:=⟨_,rfl⟩;obtain ⟨gc,hgc⟩:∃ g,wa.heap.size=g:=⟨_,rfl⟩;rw [hgk] at X0;rw [hgc] at X1;rw [hgk,hgc];have bT:=af (fun W=>toCall_c ⟨bQ,JF,ca,cb,cc,bg⟩ W)
 unfold dW at bT;obtain ⟨r,hr⟩:=XP (QH k ⟨bQ,JF,ca,cb,cc,bg⟩);have dF:=af (fun um ui ue uc W (h:RK W um ui ue uc k)=>ac9 k ⟨bQ,JF,ca,cb,cc,bg⟩ um ui ue uc W h PS.o Jr.o)
 have bU:=af (fun um ui ue uc W (h:RK W um ui ue uc k)=>adb k ⟨bQ,JF,ca,cb,cc,bg⟩ um ui ue uc W h PS.o Jr.o Vd.o)
 unfold dW at dF bU;have dK:=af (few_call k ⟨bQ,JF,ca,cb,cc,bg⟩);rw [hr] at dF bU dK;clear hr Jr Vd PS;have fM:=af (HR.o.below Bw.o);clear HR;have X5:=af Bw.o;have dG:=af (show ∀ W,Below w2.heap.size w2 W->(W.cell? ⟨gk,0,none⟩=some (.slice e0 en0 eQ)/\W.cell? ⟨gk,1,none⟩=some (.slice e1 eU eX)/\W.cell? ⟨gk,2,none⟩=some (.slice e2 eY fA)/\W.cell? ⟨gk,3,none⟩=some (.slice e3 fB fC))/\W.cell? ⟨gc,0,none⟩=some (I_ bQ)/\W.cell? ⟨gc,1,none⟩=some (I_ JF)/\W.cell? ⟨gc,2,none⟩=some (I_ ca)/\W.cell? ⟨gc,3,none⟩=some (I_ cb)/\W.cell? ⟨gc,4,none⟩=some (I_ cc)/\W.cell? ⟨gc,5,none⟩=some (.string bg) from fun W hW=>⟨(X0.o.below hW).c4,(X1.o.below hW).c6⟩)
 have bV:=af (fun W (hb:Below w2.heap.size w2 W)=>QR k _ _ _ _ W (fM.o.below hb) HN.o.m HN.o.i HN.o.e HN.o.r HN.o.c)
 clear X0 X1;go_upto_region 8 with fail;go_cut [6,7,8] from 19 (fun s6 s7 s8 wx=>∃ g u0 u1 u2 u3,s6=.pointer (some ⟨g,0,none⟩)/\s7=I_ r.2.1/\s8=I_ r.2.2/\TI (BX wx g 28 [u0,u1,u2,u3])/\TI (w2.heap.size<=g)/\TI (KO wx w2.heap.size u0 u1 u2 u3 r.1)/\TI (Below w2.heap.size w2 wx))
 case first =>
  -- REGION 8
  have ah:=dG;have bW:=bV;have aC:=Below.refl w2.heap.size w2;have dD:=ah.o _ (Below.bz aC);go_wp2_with fail;refine afi ah fun ae=>?_
  clear dD;obtain ⟨d,hd⟩:=XP w2.drew;rw [hd] at ae ⊢;replace aC:Below w2.heap.size w2 d:=hd ▸ Below.bz aC;clear hd;refine ac' 0 ?_;refine ac' 2 ?_;refine ae' 1 9 (fun K hK=>?_) (fun K hK=>?_)
  ·(go_simp;go_at_call 32;refine (bW.o _ aC).mono ?_;rintro en v1 ⟨_,_,_,_,rfl,ho,hb⟩;obtain ⟨⟨x0,bY,bZ,rfl⟩,⟨x1,cu,cO,rfl⟩,⟨x2,cZ,df,rfl⟩,⟨x3,dh,di,rfl⟩⟩:=ho.rk.slc;have HO:=af ho.rk;clear ho;have aA:=aC.trans (hb.mono aC.size);clear hb;have dE:=ah.o _ aA;go_wp2_with fail)
   refine afS hK fun ae=>?_
   clear hK K;refine ae' 3 9 (fun K hK=>?_) (fun K hK=>?_)
   ·(go_simp;go_at_call 33;refine (bT.o _).mono ?_;rintro en v2 ⟨rfl,hb⟩;have ak:=aA.trans (hb.mono aA.size);replace HO:=af (HO.o.below hb);clear hb;have bM:=ah.o _ ak;go_wp2_with fail)
    refine afS hK fun ae=>?_
    clear hK K;refine ae' 4 9 (fun K hK=>?_) (fun K hK=>?_)
    ·(go_simp;go_at_call 31;refine (dF.o _ _ _ _ _ HO.o).mono ?_;rintro en v3 ⟨_,_,_,_,rfl,ai,hb⟩;obtain ⟨⟨f0,fn0,aN,rfl⟩,⟨f1,aO,aP,rfl⟩,⟨f2,aQ,aS,rfl⟩,⟨f3,aU,aV,rfl⟩⟩:=ai.sl;have au:=af (ai.mono (show w2.heap.size<=_ from ak.size));clear ai;have ay:=ak.trans (hb.mono ak.size);clear hb;have bP:=ah.o _ ay;go_wp2_with fail)
     refine afS hK fun ae=>?_
     clear hK K;refine afV 5 ?_;refine ahk 9 fun K hK=>?_
     (go_simp;obtain ⟨v4,hU⟩:∃ V,v3.alloc (.cells #[.slice none 0 0,.slice none 0 0,.slice none 0 0,.slice none 0 0] 28)=V:=⟨_,rfl⟩;have ag:=af (show BX v4 v3.heap.size 28 [.slice none 0 0,.slice none 0 0,.slice none 0 0,.slice none 0 0] from hU ▸ BX.new v3 _ _);obtain ⟨aj,az⟩:∃ g,v3.heap.size=g:=⟨_,rfl⟩;have aB:w2.heap.size<=aj:=az ▸ ay.size;have hb:=(show Below v3.heap.size v3 v4 from hU ▸ dm);have aH:=ay.trans (hb.mono ay.size);replace au:=af (au.o.below hb);rw [az] at ag ⊢;try rw [hU]
      clear hU az hb;have dC:=ah.o _ aH)
     refine afS hK fun ae=>?_
     clear hK K;have p0:=ag.o.c4;have bK:=ag.o.f4;refine ahk 10 fun K hK=>?_
     (go_simp;obtain ⟨V,hV⟩:=XP (sets v4 aj 0 [.slice f0 fn0 aN,.slice f1 aO aP,.slice f2 aQ aS,.slice f3 aU aV]);have VL:Below w2.heap.size w2 V:=hV ▸ dP aB _ 0 aH;have aI:=af (show BX V aj 28 [.slice f0 fn0 aN,.slice f1 aO aP,.slice f2 aQ aS,.slice f3 aU aV] from hV ▸ ag.o.sets _ rfl);replace au:=af (show KO V w2.heap.size (.slice f0 fn0 aN) (.slice f1 aO aP) (.slice f2 aQ aS) (.slice f3 aU aV) r.1 from hV ▸ KO.sets aJ _ 0 ag.o au.o);rw [afA v4,hV];have bJ:=ah.o V VL)
     refine afS hK fun ae=>?_
     clear hK K;refine afU 11 ?_;refine wpAnyH_done (by kernel_rfl) ?_ _;go_wp2_with fail;go_meet;exact ⟨aj,_,_,_,_,rfl,rfl,rfl,aI.o,aB,au.o,VL⟩
    (go_simp;obtain ⟨v3,hU⟩:∃ V,v2.alloc (.cells #[.slice none 0 0,.slice none 0 0,.slice none 0 0,.slice none 0 0] 28)=V:=⟨_,rfl⟩;have ag:=af (show BX v3 v2.heap.size 28 [.slice none 0 0,.slice none 0 0,.slice none 0 0,.slice none 0 0] from hU ▸ BX.new v2 _ _);obtain ⟨aj,az⟩:∃ g,v2.heap.size=g:=⟨_,rfl⟩;have aB:w2.heap.size<=aj:=az ▸ ak.size;have hb:=(show Below v2.heap.size v2 v3 from hU ▸ dm);have ay:=ak.trans (hb.mono ak.size);replace HO:=af (HO.o.below hb);rw [az] at ag ⊢;try rw [hU]
     clear hU az hb;have bP:=ah.o _ ay)
    refine afS hK fun ae=>?_
    clear hK K;refine ahk 4 fun K hK=>?_
    (go_simp;go_at_call 31;refine (dF.o _ _ _ _ _ HO.o).mono ?_;rintro en v4 ⟨_,_,_,_,rfl,ai,hb⟩;obtain ⟨⟨f0,fn0,aN,rfl⟩,⟨f1,aO,aP,rfl⟩,⟨f2,aQ,aS,rfl⟩,⟨f3,aU,aV,rfl⟩⟩:=ai.sl;have au:=af (ai.mono (show w2.heap.size<=_ from ay.size));clear ai;have aH:=ay.trans (hb.mono ay.size);replace ag:=af (ag.o.below hb);clear hb;have dC:=ah.o _ aH;go_wp2_with fail)
    refine afS hK fun ae=>?_
    clear hK K;refine afV 5 ?_;have p0:=ag.o.c4;have bK:=ag.o.f4;refine ahk 10 fun K hK=>?_
    (go_simp;obtain ⟨V,hV⟩:=XP (sets v4 aj 0 [.slice f0 fn0 aN,.slice f1 aO aP,.slice f2 aQ aS,.slice f3 aU aV]);have VL:Below w2.heap.size w2 V:=hV ▸ dP aB _ 0 aH;have aI:=af (show BX V aj 28 [.slice f0 fn0 aN,.slice f1 aO aP,.slice f2 aQ aS,.slice f3 aU aV] from hV ▸ ag.o.sets _ rfl);replace au:=af (show KO V w2.heap.size (.slice f0 fn0 aN) (.slice f1 aO aP) (.slice f2 aQ aS) (.slice f3 aU aV) r.1 from hV ▸ KO.sets aJ _ 0 ag.o au.o);rw [afA v4,hV];have bJ:=ah.o V VL)
    refine afS hK fun ae=>?_
    clear hK K;refine afU 11 ?_;refine wpAnyH_done (by kernel_rfl) ?_ _;go_wp2_with fail;go_meet;exact ⟨aj,_,_,_,_,rfl,rfl,rfl,aI.o,aB,au.o,VL⟩
   (go_simp;obtain ⟨v2,hU⟩:∃ V,v1.alloc (.cells #[.slice none 0 0,.slice none 0 0,.slice none 0 0,.slice none 0 0] 28)=V:=⟨_,rfl⟩;have ag:=af (show BX v2 v1.heap.size 28 [.slice none 0 0,.slice none 0 0,.slice none 0 0,.slice none 0 0] from hU ▸ BX.new v1 _ _);obtain ⟨aj,az⟩:∃ g,v1.heap.size=g:=⟨_,rfl⟩;have aB:w2.heap.size<=aj:=az ▸ aA.size;have hb:=(show Below v1.heap.size v1 v2 from hU ▸ dm);have ak:=aA.trans (hb.mono aA.size);replace HO:=af (HO.o.below hb);rw [az] at ag ⊢;try rw [hU]
    clear hU az hb;have bM:=ah.o _ ak)
   refine afS hK fun ae=>?_
   clear hK K;refine ahk 3 fun K hK=>?_
   (go_simp;go_at_call 33;refine (bT.o _).mono ?_;rintro en v3 ⟨rfl,hb⟩;have ay:=ak.trans (hb.mono ak.size);replace HO:=af (HO.o.below hb);replace ag:=af (ag.o.below hb);clear hb;have bP:=ah.o _ ay;go_wp2_with fail)
   refine afS hK fun ae=>?_
   clear hK K;refine ahk 4 fun K hK=>?_
   (go_simp;go_at_call 31;refine (dF.o _ _ _ _ _ HO.o).mono ?_;rintro en v4 ⟨_,_,_,_,rfl,ai,hb⟩;obtain ⟨⟨f0,fn0,aN,rfl⟩,⟨f1,aO,aP,rfl⟩,⟨f2,aQ,aS,rfl⟩,⟨f3,aU,aV,rfl⟩⟩:=ai.sl;have au:=af (ai.mono (show w2.heap.size<=_ from ay.size));clear ai;have aH:=ay.trans (hb.mono ay.size);replace ag:=af (ag.o.below hb);clear hb;have dC:=ah.o _ aH;go_wp2_with fail)
   refine afS hK fun ae=>?_
   clear hK K;refine afV 5 ?_;have p0:=ag.o.c4;have bK:=ag.o.f4;refine ahk 10 fun K hK=>?_
   (go_simp;obtain ⟨V,hV⟩:=XP (sets v4 aj 0 [.slice f0 fn0 aN,.slice f1 aO aP,.slice f2 aQ aS,.slice f3 aU aV]);have VL:Below w2.heap.size w2 V:=hV ▸ dP aB _ 0 aH;have aI:=af (show BX V aj 28 [.slice f0 fn0 aN,.slice f1 aO aP,.slice f2 aQ aS,.slice f3 aU aV] from hV ▸ ag.o.sets _ rfl);replace au:=af (show KO V w2.heap.size (.slice f0 fn0 aN) (.slice f1 aO aP) (.slice f2 aQ aS) (.slice f3 aU aV) r.1 from hV ▸ KO.sets aJ _ 0 ag.o au.o);rw [afA v4,hV];have bJ:=ah.o V VL)
   refine afS hK fun ae=>?_
   clear hK K;refine afU 11 ?_;refine wpAnyH_done (by kernel_rfl) ?_ _;go_wp2_with fail;go_meet;exact ⟨aj,_,_,_,_,rfl,rfl,rfl,aI.o,aB,au.o,VL⟩
  (go_simp;obtain ⟨v1,hU⟩:∃ V,d.alloc (.cells #[.slice none 0 0,.slice none 0 0,.slice none 0 0,.slice none 0 0] 28)=V:=⟨_,rfl⟩;have ag:=af (show BX v1 d.heap.size 28 [.slice none 0 0,.slice none 0 0,.slice none 0 0,.slice none 0 0] from hU ▸ BX.new d _ _);obtain ⟨aj,az⟩:∃ g,d.heap.size=g:=⟨_,rfl⟩;have aB:w2.heap.size<=aj:=az ▸ aC.size;have hb:=(show Below d.heap.size d v1 from hU ▸ dm);have aA:=aC.trans (hb.mono aC.size);rw [az] at ag ⊢;try rw [hU]
   clear hU az hb;have dE:=ah.o _ aA)
  refine afS hK fun ae=>?_
  clear hK K;refine ahk 1 fun K hK=>?_
  (go_simp;go_at_call 32;refine (bW.o _ aA).mono ?_;rintro en v2 ⟨_,_,_,_,rfl,ho,hb⟩;obtain ⟨⟨x0,bY,bZ,rfl⟩,⟨x1,cu,cO,rfl⟩,⟨x2,cZ,df,rfl⟩,⟨x3,dh,di,rfl⟩⟩:=ho.rk.slc;have HO:=af ho.rk;clear ho;have ak:=aA.trans (hb.mono aA.size);replace ag:=af (ag.o.below hb);clear hb;have bM:=ah.o _ ak;go_wp2_with fail)
  refine afS hK fun ae=>?_
  clear hK K;refine ahk 3 fun K hK=>?_
  (go_simp;go_at_call 33;refine (bT.o _).mono ?_;rintro en v3 ⟨rfl,hb⟩;have ay:=ak.trans (hb.mono ak.size);replace HO:=af (HO.o.below hb);replace ag:=af (ag.o.below hb);clear hb;have bP:=ah.o _ ay;go_wp2_with fail)
  refine afS hK fun ae=>?_
  clear hK K;refine ahk 4 fun K hK=>?_
  (go_simp;go_at_call 31;refine (dF.o _ _ _ _ _ HO.o).mono ?_;rintro en v4 ⟨_,_,_,_,rfl,ai,hb⟩;obtain ⟨⟨f0,fn0,aN,rfl⟩,⟨f1,aO,aP,rfl⟩,⟨f2,aQ,aS,rfl⟩,⟨f3,aU,aV,rfl⟩⟩:=ai.sl;have au:=af (ai.mono (show w2.heap.size<=_ from ay.size));clear ai;have aH:=ay.trans (hb.mono ay.size);replace ag:=af (ag.o.below hb);clear hb;have dC:=ah.o _ aH;go_wp2_with fail)
  refine afS hK fun ae=>?_
  clear hK K;refine afV 5 ?_;have p0:=ag.o.c4;have bK:=ag.o.f4;refine ahk 10 fun K hK=>?_
  (go_simp;obtain ⟨V,hV⟩:=XP (sets v4 aj 0 [.slice f0 fn0 aN,.slice f1 aO aP,.slice f2 aQ aS,.slice f3 aU aV]);have VL:Below w2.heap.size w2 V:=hV ▸ dP aB _ 0 aH;have aI:=af (show BX V aj 28 [.slice f0 fn0 aN,.slice f1 aO aP,.slice f2 aQ aS,.slice f3 aU aV] from hV ▸ ag.o.sets _ rfl);replace au:=af (show KO V w2.heap.size (.slice f0 fn0 aN) (.slice f1 aO aP) (.slice f2 aQ aS) (.slice f3 aU aV) r.1 from hV ▸ KO.sets aJ _ 0 ag.o au.o);rw [afA v4,hV];have bJ:=ah.o V VL)
  refine afS hK fun ae=>?_
  clear hK K;refine afU 11 ?_;refine wpAnyH_done (by kernel_rfl) ?_ _;go_wp2_with fail;go_meet;exact ⟨aj,_,_,_,_,rfl,rfl,rfl,aI.o,aB,au.o,VL⟩
 case rest =>
  obtain ⟨w3,ew⟩:∃ x,x=wc:=⟨wc,rfl⟩;subst ew;obtain ⟨g6,_,_,_,_,rfl,rfl,rfl,dB,aB,ai,dw⟩:=hcut;obtain ⟨⟨f0,fn0,aN,rfl⟩,⟨f1,aO,aP,rfl⟩,⟨f2,aQ,aS,rfl⟩,⟨f3,aU,aV,rfl⟩⟩:=ai.o.sl;have aG:=af dB.o;have fO:=af aB.o;have K6:=af ai.o;have ax:=af dw.o;clear dB aB ai dw dJ;have eP:=af ax.o.size;have c9:=(dG.o w3 ax.o).1;go_wp2_with fail;clear c9;refine (bV.o _ ax.o).mono ?_;rintro en w4 ⟨_,_,_,_,rfl,ho,hb⟩;obtain ⟨⟨x0,bY,bZ,rfl⟩,⟨x1,cu,cO,rfl⟩,⟨x2,cZ,df,rfl⟩,⟨x3,dh,di,rfl⟩⟩:=ho.rk.slc;have HX:=af ho.kh;have aF:=af hb;have K3:=K6;replace aG:=af (aG.o.below hb);replace ax:=af (ax.o.trans (hb.mono ax.o.size));have dO:=af hb.size;clear ho hb;obtain ⟨w5,dM⟩:=XP (w4.alloc (.cells #[.slice x0 bY bZ,.slice x1 cu cO,.slice x2 cZ df,.slice x3 dh di] 28))
  have bH:=af (show BX w5 w4.heap.size 28 [.slice x0 bY bZ,.slice x1 cu cO,.slice x2 cZ df,.slice x3 dh di] from dM ▸ BX.new w4 _ _);have hb:Below w4.heap.size w4 w5:=dM ▸ dm;replace aG:=af (aG.o.below hb);replace HX:=af (HX.o.below hb);replace ax:=af (ax.o.trans (hb.mono ax.o.size));replace aF:=af (aF.o.trans (hb.mono aF.o.size));have dH:=af hb.size;clear hb;obtain ⟨g9,UQ⟩:∃ g,w4.heap.size=g:=⟨_,rfl⟩;have fP:=af UQ;rw [UQ] at bH;have HO:=af (fun W (hW:Below w5.heap.size w5 W)=>(HX.o.below hW).rk)
  have ah:=af (show ∀ W,Below w5.heap.size w5 W->(W.cell? ⟨g9,0,none⟩=some (.slice x0 bY bZ)/\W.cell? ⟨g9,1,none⟩=some (.slice x1 cu cO)/\W.cell? ⟨g9,2,none⟩=some (.slice x2 cZ df)/\W.cell? ⟨g9,3,none⟩=some (.slice x3 dh di))/\W.cell? ⟨gc,0,none⟩=some (I_ bQ)/\W.cell? ⟨gc,1,none⟩=some (I_ JF)/\W.cell? ⟨gc,2,none⟩=some (I_ ca)/\W.cell? ⟨gc,3,none⟩=some (I_ cb)/\W.cell? ⟨gc,4,none⟩=some (I_ cc)/\W.cell? ⟨gc,5,none⟩=some (.string bg) from fun W hW=>⟨(bH.o.below hW).c4,(dG.o W (ax.o.trans (hW.mono ax.o.size))).2⟩)
  go_upto_region 10 with fail
  try rw [dM]
  try rw [UQ]
  clear dM UQ;go_cut [10,11,12] from 19 (fun s10 s11 s12 wx=>∃ g u0 u1 u2 u3,s10=.pointer (some ⟨g,0,none⟩)/\s11=I_ r.2.1/\s12=I_ r.2.2/\TI (BX wx g 28 [u0,u1,u2,u3])/\TI (w5.heap.size<=g)/\TI (KO wx w5.heap.size u0 u1 u2 u3 r.1)/\TI (Below w5.heap.size w5 wx))
  case first =>
   -- REGION 10
   have aC:=Below.refl w5.heap.size w5;have dD:=ah.o _ (Below.bz aC);go_wp2_with fail;refine afi ah fun ae=>?_
   clear dD;obtain ⟨d,hd⟩:=XP w5.drew;rw [hd] at ae ⊢;replace aC:Below w5.heap.size w5 d:=hd ▸ Below.bz aC;clear hd;refine afU 0 ?_;refine ae' 2 8 (fun K hK=>?_) (fun K hK=>?_)
   ·(go_simp;go_at_call 33;refine (bT.o _).mono ?_;rintro en v1 ⟨rfl,hb⟩;have aA:=aC.trans (hb.mono aC.size);clear hb;have dE:=ah.o _ aA;go_wp2_with fail)
    refine afS hK fun ae=>?_
    clear hK K;refine ae' 3 8 (fun K hK=>?_) (fun K hK=>?_)
    ·(go_simp;go_at_call 28;refine (bU.o _ _ _ _ _ (HO.o _ aA)).mono ?_;rintro en v2 ⟨_,_,_,_,rfl,ai,hb⟩;obtain ⟨⟨h0,hn0,hm0,rfl⟩,⟨h1,hn1,aX,rfl⟩,⟨h2,hn2,aY,rfl⟩,⟨h3,hn3,xH,rfl⟩⟩:=ai.sl;have au:=af (ai.mono (show w5.heap.size<=_ from aA.size));clear ai;have ak:=aA.trans (hb.mono aA.size);clear hb;have bM:=ah.o _ ak;go_wp2_with fail)
     refine afS hK fun ae=>?_
     clear hK K;refine afV 4 ?_;refine ahk 8 fun K hK=>?_
     (go_simp;obtain ⟨v3,hU⟩:∃ V,v2.alloc (.cells #[.slice none 0 0,.slice none 0 0,.slice none 0 0,.slice none 0 0] 28)=V:=⟨_,rfl⟩;have ag:=af (show BX v3 v2.heap.size 28 [.slice none 0 0,.slice none 0 0,.slice none 0 0,.slice none 0 0] from hU ▸ BX.new v2 _ _);obtain ⟨aj,az⟩:∃ g,v2.heap.size=g:=⟨_,rfl⟩;have aB:w5.heap.size<=aj:=az ▸ ak.size;have hb:=(show Below v2.heap.size v2 v3 from hU ▸ dm);have ay:=ak.trans (hb.mono ak.size);replace au:=af (au.o.below hb);rw [az] at ag ⊢;try rw [hU]
      clear hU az hb;have bP:=ah.o _ ay)
     refine afS hK fun ae=>?_
     clear hK K;have p0:=ag.o.c4;have bK:=ag.o.f4;refine ahk 9 fun K hK=>?_
     (go_simp;obtain ⟨V,hV⟩:=XP (sets v3 aj 0 [.slice h0 hn0 hm0,.slice h1 hn1 aX,.slice h2 hn2 aY,.slice h3 hn3 xH]);have VL:Below w5.heap.size w5 V:=hV ▸ dP aB _ 0 ay;have aI:=af (show BX V aj 28 [.slice h0 hn0 hm0,.slice h1 hn1 aX,.slice h2 hn2 aY,.slice h3 hn3 xH] from hV ▸ ag.o.sets _ rfl);replace au:=af (show KO V w5.heap.size (.slice h0 hn0 hm0) (.slice h1 hn1 aX) (.slice h2 hn2 aY) (.slice h3 hn3 xH) r.1 from hV ▸ KO.sets aJ _ 0 ag.o au.o);rw [afA v3,hV];have bJ:=ah.o V VL)
     refine afS hK fun ae=>?_
     clear hK K;refine afU 10 ?_;refine wpAnyH_done (by kernel_rfl) ?_ _;go_wp2_with fail;go_meet;exact ⟨aj,_,_,_,_,rfl,rfl,rfl,aI.o,aB,au.o,VL⟩
    (go_simp;obtain ⟨v2,hU⟩:∃ V,v1.alloc (.cells #[.slice none 0 0,.slice none 0 0,.slice none 0 0,.slice none 0 0] 28)=V:=⟨_,rfl⟩;have ag:=af (show BX v2 v1.heap.size 28 [.slice none 0 0,.slice none 0 0,.slice none 0 0,.slice none 0 0] from hU ▸ BX.new v1 _ _);obtain ⟨aj,az⟩:∃ g,v1.heap.size=g:=⟨_,rfl⟩;have aB:w5.heap.size<=aj:=az ▸ aA.size;have hb:=(show Below v1.heap.size v1 v2 from hU ▸ dm);have ak:=aA.trans (hb.mono aA.size);rw [az] at ag ⊢;try rw [hU]
     clear hU az hb;have bM:=ah.o _ ak)
    refine afS hK fun ae=>?_
    clear hK K;refine ahk 3 fun K hK=>?_
    (go_simp;go_at_call 28;refine (bU.o _ _ _ _ _ (HO.o _ ak)).mono ?_;rintro en v3 ⟨_,_,_,_,rfl,ai,hb⟩;obtain ⟨⟨h0,hn0,hm0,rfl⟩,⟨h1,hn1,aX,rfl⟩,⟨h2,hn2,aY,rfl⟩,⟨h3,hn3,xH,rfl⟩⟩:=ai.sl;have au:=af (ai.mono (show w5.heap.size<=_ from ak.size));clear ai;have ay:=ak.trans (hb.mono ak.size);replace ag:=af (ag.o.below hb);clear hb;have bP:=ah.o _ ay;go_wp2_with fail)
    refine afS hK fun ae=>?_
    clear hK K;refine afV 4 ?_;have p0:=ag.o.c4;have bK:=ag.o.f4;refine ahk 9 fun K hK=>?_
    (go_simp;obtain ⟨V,hV⟩:=XP (sets v3 aj 0 [.slice h0 hn0 hm0,.slice h1 hn1 aX,.slice h2 hn2 aY,.slice h3 hn3 xH]);have VL:Below w5.heap.size w5 V:=hV ▸ dP aB _ 0 ay;have aI:=af (show BX V aj 28 [.slice h0 hn0 hm0,.slice h1 hn1 aX,.slice h2 hn2 aY,.slice h3 hn3 xH] from hV ▸ ag.o.sets _ rfl);replace au:=af (show KO V w5.heap.size (.slice h0 hn0 hm0) (.slice h1 hn1 aX) (.slice h2 hn2 aY) (.slice h3 hn3 xH) r.1 from hV ▸ KO.sets aJ _ 0 ag.o au.o);rw [afA v3,hV];have bJ:=ah.o V VL)
    refine afS hK fun ae=>?_
    clear hK K;refine afU 10 ?_;refine wpAnyH_done (by kernel_rfl) ?_ _;go_wp2_with fail;go_meet;exact ⟨aj,_,_,_,_,rfl,rfl,rfl,aI.o,aB,au.o,VL⟩
   (go_simp;obtain ⟨v1,hU⟩:∃ V,d.alloc (.cells #[.slice none 0 0,.slice none 0 0,.slice none 0 0,.slice none 0 0] 28)=V:=⟨_,rfl⟩;have ag:=af (show BX v1 d.heap.size 28 [.slice none 0 0,.slice none 0 0,.slice none 0 0,.slice none 0 0] from hU ▸ BX.new d _ _);obtain ⟨aj,az⟩:∃ g,d.heap.size=g:=⟨_,rfl⟩;have aB:w5.heap.size<=aj:=az ▸ aC.size;have hb:=(show Below d.heap.size d v1 from hU ▸ dm);have aA:=aC.trans (hb.mono aC.size);rw [az] at ag ⊢;try rw [hU]
    clear hU az hb;have dE:=ah.o _ aA)
   refine afS hK fun ae=>?_
   clear hK K;refine ahk 2 fun K hK=>?_
   (go_simp;go_at_call 33;refine (bT.o _).mono ?_;rintro en v2 ⟨rfl,hb⟩;have ak:=aA.trans (hb.mono aA.size);replace ag:=af (ag.o.below hb);clear hb;have bM:=ah.o _ ak;go_wp2_with fail)
   refine afS hK fun ae=>?_
   clear hK K;refine ahk 3 fun K hK=>?_
   (go_simp;go_at_call 28;refine (bU.o _ _ _ _ _ (HO.o _ ak)).mono ?_;rintro en v3 ⟨_,_,_,_,rfl,ai,hb⟩;obtain ⟨⟨h0,hn0,hm0,rfl⟩,⟨h1,hn1,aX,rfl⟩,⟨h2,hn2,aY,rfl⟩,⟨h3,hn3,xH,rfl⟩⟩:=ai.sl;have au:=af (ai.mono (show w5.heap.size<=_ from ak.size));clear ai;have ay:=ak.trans (hb.mono ak.size);replace ag:=af (ag.o.below hb);clear hb;have bP:=ah.o _ ay;go_wp2_with fail)
   refine afS hK fun ae=>?_
   clear hK K;refine afV 4 ?_;have p0:=ag.o.c4;have bK:=ag.o.f4;refine ahk 9 fun K hK=>?_
   (go_simp;obtain ⟨V,hV⟩:=XP (sets v3 aj 0 [.slice h0 hn0 hm0,.slice h1 hn1 aX,.slice h2 hn2 aY,.slice h3 hn3 xH]);have VL:Below w5.heap.size w5 V:=hV ▸ dP aB _ 0 ay;have aI:=af (show BX V aj 28 [.slice h0 hn0 hm0,.slice h1 hn1 aX,.slice h2 hn2 aY,.slice h3 hn3 xH] from hV ▸ ag.o.sets _ rfl);replace au:=af (show KO V w5.heap.size (.slice h0 hn0 hm0) (.slice h1 hn1 aX) (.slice h2 hn2 aY) (.slice h3 hn3 xH) r.1 from hV ▸ KO.sets aJ _ 0 ag.o au.o);rw [afA v3,hV];have bJ:=ah.o V VL)
   refine afS hK fun ae=>?_
   clear hK K;refine afU 10 ?_;refine wpAnyH_done (by kernel_rfl) ?_ _;go_wp2_with fail;go_meet;exact ⟨aj,_,_,_,_,rfl,rfl,rfl,aI.o,aB,au.o,VL⟩
  case rest =>
   obtain ⟨w6,ew⟩:∃ x,x=wc:=⟨wc,rfl⟩;subst ew;obtain ⟨g10,_,_,_,_,rfl,rfl,rfl,dB,aB,ai,dw⟩:=hcut;obtain ⟨⟨h0,hn0,hm0,rfl⟩,⟨h1,hn1,aX,rfl⟩,⟨h2,hn2,aY,rfl⟩,⟨h3,hn3,xH,rfl⟩⟩:=ai.o.sl;have aK:=af dB.o;have GA:=af aB.o;have bI:=af ai.o;have dI:=af dw.o;clear dB aB ai dw;have hb:=dI.o;clear dI ah HO;replace aG:=af (aG.o.below hb);replace bH:=af (bH.o.below hb);replace HX:=af (HX.o.below hb);replace ax:=af (ax.o.trans (hb.mono ax.o.size));replace aF:=af (aF.o.trans (hb.mono aF.o.size));have dQ:=af hb.size;clear hb;have HE:=af (acP r.1 (.slice h0 hn0 hm0) (.slice h1 hn1 aX) (.slice h2 hn2 aY) (.slice h3 hn3 xH) (.slice f0 fn0 aN) (.slice f1 aO aP) (.slice f2 aQ aS) (.slice f3 aU aV) w6 bI.o.rk (K3.o.below aF.o).rk);obtain c10:=aK.o.c4;obtain c6:=aG.o.c4;go_wp2_with fail;clear c10 c6
   refine HE.o.mono ?_;rintro en w7 ⟨rfl,hb⟩;clear HE;replace aG:=af (aG.o.below hb);replace bH:=af (bH.o.below hb);replace aK:=af (aK.o.below hb);replace HX:=af (HX.o.below hb);replace bI:=af (bI.o.below hb);replace ax:=af (ax.o.trans (hb.mono ax.o.size));replace aF:=af (aF.o.trans (hb.mono aF.o.size));have dR:=af hb.size;clear hb;have ah:=af (show ∀ W,Below w7.heap.size w7 W->(W.cell? ⟨g9,0,none⟩=some (.slice x0 bY bZ)/\W.cell? ⟨g9,1,none⟩=some (.slice x1 cu cO)/\W.cell? ⟨g9,2,none⟩=some (.slice x2 cZ df)/\W.cell? ⟨g9,3,none⟩=some (.slice x3 dh di))/\W.cell? ⟨gk,0,none⟩=some (.slice e0 en0 eQ)/\W.cell? ⟨gk,1,none⟩=some (.slice e1 eU eX)/\W.cell? ⟨gk,2,none⟩=some (.slice e2 eY fA)/\W.cell? ⟨gk,3,none⟩=some (.slice e3 fB fC) from fun W hW=>⟨(bH.o.below hW).c4,(dG.o W (ax.o.trans (hW.mono ax.o.size))).1⟩)
   have bW:=af (fun W (hW:Below w7.heap.size w7 W)=>bV.o W (ax.o.trans (hW.mono ax.o.size)))
   have HO:=af (fun W (hW:Below w7.heap.size w7 W)=>(HX.o.below hW).rk)
   have aC:=Below.refl w7.heap.size w7;have dD:=ah.o _ (Below.bz aC);go_wp2_with fail;refine afi ah fun ae=>?_
   clear dD;obtain ⟨d,hd⟩:=XP w7.drew;rw [hd] at ae ⊢;replace aC:Below w7.heap.size w7 d:=hd ▸ Below.bz aC;clear hd;refine afU 0 ?_;refine ahk 2 fun K hK=>?_
   (go_simp;go_at_call 32;refine (bW.o _ aC).mono ?_;rintro en v1 ⟨_,_,_,_,rfl,ho,hb⟩;obtain ⟨⟨y0,fQ,fU,rfl⟩,⟨y1,fV,gm,rfl⟩,⟨y2,gp,gq,rfl⟩,⟨y3,gu,gy,rfl⟩⟩:=ho.rk.slc;have HQ:=af ho.rk;clear ho;have aA:=aC.trans (hb.mono aC.size);clear hb;have dE:=ah.o _ aA;go_wp2_with fail)
   refine afS hK fun ae=>?_
   clear hK K;refine ahk 3 fun K hK=>?_
   (go_simp;go_at_call 34;refine (acP k _ _ _ _ _ _ _ _ _ (HO.o _ aA) HQ.o).mono ?_;rintro en v2 ⟨rfl,hb⟩;have ak:=aA.trans (hb.mono aA.size);clear hb;have bM:=ah.o _ ak;go_wp2_with fail)
   refine afS hK fun ae=>?_
   clear hK K;refine ac' 4 ?_;refine wpAnyH_done (by kernel_rfl) ?_ _;have hb:=ak;replace aG:=af (aG.o.below hb);replace bH:=af (bH.o.below hb);replace aK:=af (aK.o.below hb);replace HX:=af (HX.o.below hb);replace bI:=af (bI.o.below hb);replace ax:=af (ax.o.trans (hb.mono ax.o.size));replace aF:=af (aF.o.trans (hb.mono aF.o.size));have dV:=af hb.size;clear hb bM dE ae ah bW HO HQ aC aA ak;obtain c9:=bH.o.c4;go_wp2_with fail;clear c9;have ed:=af (few_pos k);refine (markKernel_c k 1 w3.heap.size w4.heap.size _ _ _ _ _ HX.o (Nat.le_trans dO.o (Nat.le_trans dH.o (Nat.le_trans dQ.o (Nat.le_trans dR.o dV.o)))) (Nat.le_trans dH.o (Nat.le_trans dQ.o (Nat.le_trans dR.o dV.o))) (by decide) dY.o.h).mono ?_;rintro en w9 ⟨rfl,dL,bG⟩;have eF:=ed.o;obtain ⟨m1,aX⟩:∃ m,(Kx.markK 1 k).2=m:=⟨_,rfl⟩;rw [aX] at eF ⊢
   replace aG:=af (aG.o.off bG nMk);replace bH:=af (bH.o.off bG nMk);replace aK:=af (aK.o.off bG nMk);replace bI:=af (bI.o.btw bG dH.o);replace aF:=af (aF.o.trans bG.b);replace ax:=af (ax.o.trans (bG.b.mono eP.o));have fD:=af bG.b.size;clear dL bG aX HX ed dY;have HE:=af (acP r.1 (.slice h0 hn0 hm0) (.slice h1 hn1 aX) (.slice h2 hn2 aY) (.slice h3 hn3 xH) (.slice f0 fn0 aN) (.slice f1 aO aP) (.slice f2 aQ aS) (.slice f3 aU aV) w9 bI.o.rk (K3.o.below aF.o).rk);obtain c10:=aK.o.c4;obtain c6:=aG.o.c4;go_wp2_with fail;clear c10 c6;refine HE.o.mono ?_;rintro en w10 ⟨rfl,hb⟩;clear HE;replace aG:=af (aG.o.below hb);replace aK:=af (aK.o.below hb);replace bI:=af (bI.o.below hb);replace ax:=af (ax.o.trans (hb.mono ax.o.size));replace aF:=af (aF.o.trans (hb.mono aF.o.size));have fE:=af hb.size;clear hb
   obtain c10:=aK.o.c4;go_wp2_with fail;clear c10 eF;have eu:=af (few_pos r.1);have fF:=af (show w5.heap.size<=w10.heap.size from Nat.le_trans dQ.o (Nat.le_trans dR.o (Nat.le_trans dV.o (Nat.le_trans fD.o fE.o))));refine (markKernel_c r.1 1 w5.heap.size w10.heap.size _ _ _ _ _ bI.o.kh fF.o aW (by decide) dK.o.h).mono ?_;rintro en UR ⟨rfl,dL,bG⟩;have dn:=af dL.rk;replace aG:=af (aG.o.off bG nMk);replace aK:=af (aK.o.off bG nMk);replace aF:=af (aF.o.trans (bG.b.mono (Nat.le_trans dO.o dH.o)));replace ax:=af (ax.o.trans (bG.b.mono (Nat.le_trans eP.o (Nat.le_trans dO.o dH.o))));clear dL bG bI;have HH:=af (fun W (h:RK W _ _ _ _ _)=>heldKernel_c r.1 1 (.slice h0 hn0 hm0) (.slice h1 hn1 aX) (.slice h2 hn2 aY) (.slice h3 hn3 xH) W h (by decide) dK.o.h)
   obtain ⟨m2,aY⟩:∃ m,(Kx.markK 1 r.1).2=m:=⟨_,rfl⟩;have fK:=eu.o;rw [aY] at fK HH ⊢;clear aY dK eu;obtain c10:=aK.o.c4;go_wp2_with fail;clear c10;refine (HH.o _ dn.o).mono ?_;rintro en w12 ⟨rfl,hb⟩;replace aG:=af (aG.o.below hb);replace aK:=af (aK.o.below hb);replace dn:=af (dn.o.below hb);replace ax:=af (ax.o.trans (hb.mono ax.o.size));replace aF:=af (aF.o.trans (hb.mono aF.o.size));clear hb
   have ah:=af (show ∀ W,Below w12.heap.size w12 W->(W.cell? ⟨gk,0,none⟩=some (.slice e0 en0 eQ)/\W.cell? ⟨gk,1,none⟩=some (.slice e1 eU eX)/\W.cell? ⟨gk,2,none⟩=some (.slice e2 eY fA)/\W.cell? ⟨gk,3,none⟩=some (.slice e3 fB fC))/\W.cell? ⟨gc,0,none⟩=some (I_ bQ)/\W.cell? ⟨gc,1,none⟩=some (I_ JF)/\W.cell? ⟨gc,2,none⟩=some (I_ ca)/\W.cell? ⟨gc,3,none⟩=some (I_ cb)/\W.cell? ⟨gc,4,none⟩=some (I_ cc)/\W.cell? ⟨gc,5,none⟩=some (.string bg) from fun W hW=>dG.o W (ax.o.trans (hW.mono ax.o.size)))
   have bW:=af (fun W (hW:Below w12.heap.size w12 W)=>bV.o W (ax.o.trans (hW.mono ax.o.size)))
   go_upto_region 27 with fail;go_cut [16,17,18] from 19 (fun s16 fG fH wx=>∃ g u0 u1 u2 u3,s16=.pointer (some ⟨g,0,none⟩)/\fG=I_ r.2.1/\fH=I_ r.2.2/\TI (BX wx g 28 [u0,u1,u2,u3])/\TI (w12.heap.size<=g)/\TI (KO wx w12.heap.size u0 u1 u2 u3 r.1)/\TI (Below w12.heap.size w12 wx))
   case first =>
    -- REGION 27
    have aC:=Below.refl w12.heap.size w12;have dD:=ah.o _ (Below.bz aC);go_wp2_with fail;refine afi ah fun ae=>?_
    clear dD;obtain ⟨d,hd⟩:=XP w12.drew;rw [hd] at ae ⊢;replace aC:Below w12.heap.size w12 d:=hd ▸ Below.bz aC;clear hd;refine ac' 0 ?_;refine ac' 2 ?_;refine ae' 1 9 (fun K hK=>?_) (fun K hK=>?_)
    ·(go_simp;go_at_call 32;refine (bW.o _ aC).mono ?_;rintro en v1 ⟨_,_,_,_,rfl,ho,hb⟩;obtain ⟨⟨x0,bY,bZ,rfl⟩,⟨x1,cu,cO,rfl⟩,⟨x2,cZ,df,rfl⟩,⟨x3,dh,di,rfl⟩⟩:=ho.rk.slc;have HO:=af ho.rk;clear ho;have aA:=aC.trans (hb.mono aC.size);clear hb;have dE:=ah.o _ aA;go_wp2_with fail)
     refine afS hK fun ae=>?_
     clear hK K;refine ae' 3 9 (fun K hK=>?_) (fun K hK=>?_)
     ·(go_simp;go_at_call 33;refine (bT.o _).mono ?_;rintro en v2 ⟨rfl,hb⟩;have ak:=aA.trans (hb.mono aA.size);replace HO:=af (HO.o.below hb);clear hb;have bM:=ah.o _ ak;go_wp2_with fail)
      refine afS hK fun ae=>?_
      clear hK K;refine ae' 4 9 (fun K hK=>?_) (fun K hK=>?_)
      ·(go_simp;go_at_call 28;refine (bU.o _ _ _ _ _ HO.o).mono ?_;rintro en v3 ⟨_,_,_,_,rfl,ai,hb⟩;obtain ⟨⟨j0,aZ,bf,rfl⟩,⟨j1,bi,bn,rfl⟩,⟨j2,bu,bC,rfl⟩,⟨j3,bD,bF,rfl⟩⟩:=ai.sl;have au:=af (ai.mono (show w12.heap.size<=_ from ak.size));clear ai;have ay:=ak.trans (hb.mono ak.size);clear hb;have bP:=ah.o _ ay;go_wp2_with fail)
       refine afS hK fun ae=>?_
       clear hK K;refine afV 5 ?_;refine ahk 9 fun K hK=>?_
       (go_simp;obtain ⟨v4,hU⟩:∃ V,v3.alloc (.cells #[.slice none 0 0,.slice none 0 0,.slice none 0 0,.slice none 0 0] 28)=V:=⟨_,rfl⟩;have ag:=af (show BX v4 v3.heap.size 28 [.slice none 0 0,.slice none 0 0,.slice none 0 0,.slice none 0 0] from hU ▸ BX.new v3 _ _);obtain ⟨aj,az⟩:∃ g,v3.heap.size=g:=⟨_,rfl⟩;have aB:w12.heap.size<=aj:=az ▸ ay.size;have hb:=(show Below v3.heap.size v3 v4 from hU ▸ dm);have aH:=ay.trans (hb.mono ay.size);replace au:=af (au.o.below hb);rw [az] at ag ⊢;try rw [hU]
        clear hU az hb;have dC:=ah.o _ aH)
       refine afS hK fun ae=>?_
       clear hK K;have p0:=ag.o.c4;have bK:=ag.o.f4;refine ahk 10 fun K hK=>?_
       (go_simp;obtain ⟨V,hV⟩:=XP (sets v4 aj 0 [.slice j0 aZ bf,.slice j1 bi bn,.slice j2 bu bC,.slice j3 bD bF]);have VL:Below w12.heap.size w12 V:=hV ▸ dP aB _ 0 aH;have aI:=af (show BX V aj 28 [.slice j0 aZ bf,.slice j1 bi bn,.slice j2 bu bC,.slice j3 bD bF] from hV ▸ ag.o.sets _ rfl);replace au:=af (show KO V w12.heap.size (.slice j0 aZ bf) (.slice j1 bi bn) (.slice j2 bu bC) (.slice j3 bD bF) r.1 from hV ▸ KO.sets aJ _ 0 ag.o au.o);rw [afA v4,hV];have bJ:=ah.o V VL)
       refine afS hK fun ae=>?_
       clear hK K;refine afU 11 ?_;refine wpAnyH_done (by kernel_rfl) ?_ _;go_wp2_with fail;go_meet;exact ⟨aj,_,_,_,_,rfl,rfl,rfl,aI.o,aB,au.o,VL⟩
      (go_simp;obtain ⟨v3,hU⟩:∃ V,v2.alloc (.cells #[.slice none 0 0,.slice none 0 0,.slice none 0 0,.slice none 0 0] 28)=V:=⟨_,rfl⟩;have ag:=af (show BX v3 v2.heap.size 28 [.slice none 0 0,.slice none 0 0,.slice none 0 0,.slice none 0 0] from hU ▸ BX.new v2 _ _);obtain ⟨aj,az⟩:∃ g,v2.heap.size=g:=⟨_,rfl⟩;have aB:w12.heap.size<=aj:=az ▸ ak.size;have hb:=(show Below v2.heap.size v2 v3 from hU ▸ dm);have ay:=ak.trans (hb.mono ak.size);replace HO:=af (HO.o.below hb);rw [az] at ag ⊢;try rw [hU]
       clear hU az hb;have bP:=ah.o _ ay)
      refine afS hK fun ae=>?_
      clear hK K;refine ahk 4 fun K hK=>?_
      (go_simp;go_at_call 28;refine (bU.o _ _ _ _ _ HO.o).mono ?_;rintro en v4 ⟨_,_,_,_,rfl,ai,hb⟩;obtain ⟨⟨j0,aZ,bf,rfl⟩,⟨j1,bi,bn,rfl⟩,⟨j2,bu,bC,rfl⟩,⟨j3,bD,bF,rfl⟩⟩:=ai.sl;have au:=af (ai.mono (show w12.heap.size<=_ from ay.size));clear ai;have aH:=ay.trans (hb.mono ay.size);replace ag:=af (ag.o.below hb);clear hb;have dC:=ah.o _ aH;go_wp2_with fail)
      refine afS hK fun ae=>?_
      clear hK K;refine afV 5 ?_;have p0:=ag.o.c4;have bK:=ag.o.f4;refine ahk 10 fun K hK=>?_
      (go_simp;obtain ⟨V,hV⟩:=XP (sets v4 aj 0 [.slice j0 aZ bf,.slice j1 bi bn,.slice j2 bu bC,.slice j3 bD bF]);have VL:Below w12.heap.size w12 V:=hV ▸ dP aB _ 0 aH;have aI:=af (show BX V aj 28 [.slice j0 aZ bf,.slice j1 bi bn,.slice j2 bu bC,.slice j3 bD bF] from hV ▸ ag.o.sets _ rfl);replace au:=af (show KO V w12.heap.size (.slice j0 aZ bf) (.slice j1 bi bn) (.slice j2 bu bC) (.slice j3 bD bF) r.1 from hV ▸ KO.sets aJ _ 0 ag.o au.o);rw [afA v4,hV];have bJ:=ah.o V VL)
      refine afS hK fun ae=>?_
      clear hK K;refine afU 11 ?_;refine wpAnyH_done (by kernel_rfl) ?_ _;go_wp2_with fail;go_meet;exact ⟨aj,_,_,_,_,rfl,rfl,rfl,aI.o,aB,au.o,VL⟩
     (go_simp;obtain ⟨v2,hU⟩:∃ V,v1.alloc (.cells #[.slice none 0 0,.slice none 0 0,.slice none 0 0,.slice none 0 0] 28)=V:=⟨_,rfl⟩;have ag:=af (show BX v2 v1.heap.size 28 [.slice none 0 0,.slice none 0 0,.slice none 0 0,.slice none 0 0] from hU ▸ BX.new v1 _ _);obtain ⟨aj,az⟩:∃ g,v1.heap.size=g:=⟨_,rfl⟩;have aB:w12.heap.size<=aj:=az ▸ aA.size;have hb:=(show Below v1.heap.size v1 v2 from hU ▸ dm);have ak:=aA.trans (hb.mono aA.size);replace HO:=af (HO.o.below hb);rw [az] at ag ⊢;try rw [hU]
      clear hU az hb;have bM:=ah.o _ ak)
     refine afS hK fun ae=>?_
     clear hK K;refine ahk 3 fun K hK=>?_
     (go_simp;go_at_call 33;refine (bT.o _).mono ?_;rintro en v3 ⟨rfl,hb⟩;have ay:=ak.trans (hb.mono ak.size);replace HO:=af (HO.o.below hb);replace ag:=af (ag.o.below hb);clear hb;have bP:=ah.o _ ay;go_wp2_with fail)
     refine afS hK fun ae=>?_
     clear hK K;refine ahk 4 fun K hK=>?_
     (go_simp;go_at_call 28;refine (bU.o _ _ _ _ _ HO.o).mono ?_;rintro en v4 ⟨_,_,_,_,rfl,ai,hb⟩;obtain ⟨⟨j0,aZ,bf,rfl⟩,⟨j1,bi,bn,rfl⟩,⟨j2,bu,bC,rfl⟩,⟨j3,bD,bF,rfl⟩⟩:=ai.sl;have au:=af (ai.mono (show w12.heap.size<=_ from ay.size));clear ai;have aH:=ay.trans (hb.mono ay.size);replace ag:=af (ag.o.below hb);clear hb;have dC:=ah.o _ aH;go_wp2_with fail)
     refine afS hK fun ae=>?_
     clear hK K;refine afV 5 ?_;have p0:=ag.o.c4;have bK:=ag.o.f4;refine ahk 10 fun K hK=>?_
     (go_simp;obtain ⟨V,hV⟩:=XP (sets v4 aj 0 [.slice j0 aZ bf,.slice j1 bi bn,.slice j2 bu bC,.slice j3 bD bF]);have VL:Below w12.heap.size w12 V:=hV ▸ dP aB _ 0 aH;have aI:=af (show BX V aj 28 [.slice j0 aZ bf,.slice j1 bi bn,.slice j2 bu bC,.slice j3 bD bF] from hV ▸ ag.o.sets _ rfl);replace au:=af (show KO V w12.heap.size (.slice j0 aZ bf) (.slice j1 bi bn) (.slice j2 bu bC) (.slice j3 bD bF) r.1 from hV ▸ KO.sets aJ _ 0 ag.o au.o);rw [afA v4,hV];have bJ:=ah.o V VL)
     refine afS hK fun ae=>?_
     clear hK K;refine afU 11 ?_;refine wpAnyH_done (by kernel_rfl) ?_ _;go_wp2_with fail;go_meet;exact ⟨aj,_,_,_,_,rfl,rfl,rfl,aI.o,aB,au.o,VL⟩
    (go_simp;obtain ⟨v1,hU⟩:∃ V,d.alloc (.cells #[.slice none 0 0,.slice none 0 0,.slice none 0 0,.slice none 0 0] 28)=V:=⟨_,rfl⟩;have ag:=af (show BX v1 d.heap.size 28 [.slice none 0 0,.slice none 0 0,.slice none 0 0,.slice none 0 0] from hU ▸ BX.new d _ _);obtain ⟨aj,az⟩:∃ g,d.heap.size=g:=⟨_,rfl⟩;have aB:w12.heap.size<=aj:=az ▸ aC.size;have hb:=(show Below d.heap.size d v1 from hU ▸ dm);have aA:=aC.trans (hb.mono aC.size);rw [az] at ag ⊢;try rw [hU]
     clear hU az hb;have dE:=ah.o _ aA)
    refine afS hK fun ae=>?_
    clear hK K;refine ahk 1 fun K hK=>?_
    (go_simp;go_at_call 32;refine (bW.o _ aA).mono ?_;rintro en v2 ⟨_,_,_,_,rfl,ho,hb⟩;obtain ⟨⟨x0,bY,bZ,rfl⟩,⟨x1,cu,cO,rfl⟩,⟨x2,cZ,df,rfl⟩,⟨x3,dh,di,rfl⟩⟩:=ho.rk.slc;have HO:=af ho.rk;clear ho;have ak:=aA.trans (hb.mono aA.size);replace ag:=af (ag.o.below hb);clear hb;have bM:=ah.o _ ak;go_wp2_with fail)
    refine afS hK fun ae=>?_
    clear hK K;refine ahk 3 fun K hK=>?_
    (go_simp;go_at_call 33;refine (bT.o _).mono ?_;rintro en v3 ⟨rfl,hb⟩;have ay:=ak.trans (hb.mono ak.size);replace HO:=af (HO.o.below hb);replace ag:=af (ag.o.below hb);clear hb;have bP:=ah.o _ ay;go_wp2_with fail)
    refine afS hK fun ae=>?_
    clear hK K;refine ahk 4 fun K hK=>?_
    (go_simp;go_at_call 28;refine (bU.o _ _ _ _ _ HO.o).mono ?_;rintro en v4 ⟨_,_,_,_,rfl,ai,hb⟩;obtain ⟨⟨j0,aZ,bf,rfl⟩,⟨j1,bi,bn,rfl⟩,⟨j2,bu,bC,rfl⟩,⟨j3,bD,bF,rfl⟩⟩:=ai.sl;have au:=af (ai.mono (show w12.heap.size<=_ from ay.size));clear ai;have aH:=ay.trans (hb.mono ay.size);replace ag:=af (ag.o.below hb);clear hb;have dC:=ah.o _ aH;go_wp2_with fail)
    refine afS hK fun ae=>?_
    clear hK K;refine afV 5 ?_;have p0:=ag.o.c4;have bK:=ag.o.f4;refine ahk 10 fun K hK=>?_
    (go_simp;obtain ⟨V,hV⟩:=XP (sets v4 aj 0 [.slice j0 aZ bf,.slice j1 bi bn,.slice j2 bu bC,.slice j3 bD bF]);have VL:Below w12.heap.size w12 V:=hV ▸ dP aB _ 0 aH;have aI:=af (show BX V aj 28 [.slice j0 aZ bf,.slice j1 bi bn,.slice j2 bu bC,.slice j3 bD bF] from hV ▸ ag.o.sets _ rfl);replace au:=af (show KO V w12.heap.size (.slice j0 aZ bf) (.slice j1 bi bn) (.slice j2 bu bC) (.slice j3 bD bF) r.1 from hV ▸ KO.sets aJ _ 0 ag.o au.o);rw [afA v4,hV];have bJ:=ah.o V VL)
    refine afS hK fun ae=>?_
    clear hK K;refine afU 11 ?_;refine wpAnyH_done (by kernel_rfl) ?_ _;go_wp2_with fail;go_meet;exact ⟨aj,_,_,_,_,rfl,rfl,rfl,aI.o,aB,au.o,VL⟩
   case rest =>
    obtain ⟨YN,ew⟩:∃ x,x=wc:=⟨wc,rfl⟩;subst ew;obtain ⟨g16,_,_,_,_,rfl,rfl,rfl,dB,aB,ai,dw⟩:=hcut;obtain ⟨⟨j0,aZ,bf,rfl⟩,⟨j1,bi,bn,rfl⟩,⟨j2,bu,bC,rfl⟩,⟨j3,bD,bF,rfl⟩⟩:=ai.o.sl;have fJ:=af dB.o;have GB:=af aB.o;have KB:=af ai.o;have dI:=af dw.o;clear dB aB ai dw;have hb:=dI.o;clear dI ah bW;replace aG:=af (aG.o.below hb);replace aK:=af (aK.o.below hb);replace dn:=af (dn.o.below hb);replace ax:=af (ax.o.trans (hb.mono ax.o.size));replace aF:=af (aF.o.trans (hb.mono aF.o.size));clear hb;have HE:=af (acP r.1 (.slice j0 aZ bf) (.slice j1 bi bn) (.slice j2 bu bC) (.slice j3 bD bF) (.slice f0 fn0 aN) (.slice f1 aO aP) (.slice f2 aQ aS) (.slice f3 aU aV) YN KB.o.rk (K3.o.below aF.o).rk);obtain c16:=fJ.o.c4;obtain c6:=aG.o.c4;go_wp2_with fail;clear c16 c6;refine HE.o.mono ?_;rintro en gz ⟨rfl,hb⟩
    clear HE;replace aK:=af (aK.o.below hb);replace dn:=af (dn.o.below hb);replace ax:=af (ax.o.trans (hb.mono ax.o.size));clear hb;obtain c10:=aK.o.c4;go_wp2_with fail;clear c10;refine (HH.o _ dn.o).mono ?_;rintro en gB ⟨rfl,hb⟩;replace ax:=af (ax.o.trans (hb.mono ax.o.size));clear hb;go_wp2_with fail;go_ret;exact ⟨rfl,X5.o.trans (ax.o.mono X5.o.size)⟩
end Go.Proofs.YthcmmoibpgcgaaaGreatDoor
