/- The law FnPagerLimit: at most the limit of pages is in frames. -/
import Derived.Test.YthcmmoibpgcgaaaGreatDoorLKQh
set_option linter.all false
set_option maxHeartbeats 8000000
set_option maxRecDepth 100000
open Go.Proofs.Tryz
namespace Go.Proofs.YthcmmoibpgcgaaaGreatDoor
open Go.RowKit Kx


theorem FnPagerLimit_c (a:Option Addr) (len0 cap0:Nat) (zr:List Int) (w:World) (h0:abT .u8 w a len0 cap0 zr) :
  Calls prog 3 #[.slice a len0 cap0] w (aez w):=by
 by_cases hl0:len0<=1048576
 ·have ay:¬ (1048576:Int)<(len0:Int):=by omega
  have Hr:=af (abT.rb h0);clear h0;go_enter func3,ntmps3;go_wp2_with fail;clear ay;refine (DrawPagerValid_c _ _ _ Hr.o).mono ?_;rintro en w1 ⟨P,_,_,_,_,_,_,_,rfl,⟨⟨b0,xN,wL,rfl⟩,⟨b1,zH,xC,rfl⟩,⟨b2,wM,qB,rfl⟩,⟨b3,zI,zJ,rfl⟩,⟨b4,UT,UW,rfl⟩,⟨b5,UX,UY,rfl⟩,⟨b6,UZ,U8,rfl⟩⟩,hs,hp,hb⟩;unfold bU;obtain ⟨w2,ai⟩:∃ V,w1.alloc (.cells #[.slice b0 xN wL,.slice b1 zH xC,.slice b2 wM qB,.slice b3 zI zJ,.slice b4 UT UW,.slice b5 UX UY,.slice b6 UZ U8,I_ P.hand,I_ P.limit] 32)=V:=⟨_,rfl⟩;have B2:Below w1.heap.size w1 w2:=ai ▸ dm;have H:=af (show LSP w w2 w1.heap.size P (.slice b0 xN wL) (.slice b1 zH xC) (.slice b2 wM qB) (.slice b3 zI zJ) (.slice b4 UT UW) (.slice b5 UX UY) (.slice b6 UZ U8) from ⟨hb.trans (B2.mono hb.size),ai ▸ BX.new w1 _ _,hp.below B2,hs⟩);obtain ⟨g,hg⟩:=XP w1.heap.size;rw [hg] at H
  clear hs hp hb B2 Hr;have c0:=H.o.x.c9;go_wp2_with fail
  try rw [ai]
  try rw [hg]
  clear ai hg c0;have HC:=af (ack P _ _ _ _ _ _ _ _ H.o.r H.o.s);unfold bU at HC;refine HC.o.mono ?_;rintro en w3 ⟨rfl,hb⟩;clear HC;replace H:=af (H.o.go hb);clear hb;have c0:=H.o.x.c9;go_wp2_with fail;clear c0;have HC:=af (n_ P _ _ _ _ _ _ _ _ H.o.r H.o.s);unfold bU at HC;refine HC.o.mono ?_;rintro en w4 ⟨rfl,hb⟩;clear HC;replace H:=af (H.o.go hb);clear hb
  cases ak:bI P with
  | false =>
   clear ak;go_wp2_with fail;go_ret;exact ⟨rfl,H.o.b⟩
  | true =>
   have bF:=af ak;clear ak;have Hp:=af (iD.1 bF.o);have az:=af (fun W (h:Below w4.heap.size w4 W)=>mX P.k _ _ _ _ W (H.o.go h).r.k H.o.s)
   have XH:=af (fun W (h:Below w4.heap.size w4 W)=>acw P.swap _ W (H.o.go h).r.s)
   have au:=af (fun W (h:Below w4.heap.size w4 W)=>framesOf_c P (.slice b0 xN wL) (.slice b1 zH xC) (.slice b2 wM qB) (.slice b3 zI zJ) (.slice b4 UT UW) (.slice b5 UX UY) _ P.hand P.limit W (H.o.go h).r.g)
   unfold bU at au;have aF:=af (fM bF.o).1;have WZ:=af (show jE P.swap=true from Hp.o.swap);have aA:=af (show decide ((Kx.countP P 1:Int)<=P.limit)=true from decide_eq_true Hp.o.cnt);have ag:=af (show ∀ W,Below w4.heap.size w4 W->(W.cell? ⟨g,0,none⟩=some (.slice b0 xN wL)/\W.cell? ⟨g,1,none⟩=some (.slice b1 zH xC)/\W.cell? ⟨g,2,none⟩=some (.slice b2 wM qB)/\W.cell? ⟨g,3,none⟩=some (.slice b3 zI zJ)/\W.cell? ⟨g,4,none⟩=some (.slice b4 UT UW)/\W.cell? ⟨g,5,none⟩=some (.slice b5 UX UY)/\W.cell? ⟨g,6,none⟩=some (.slice b6 UZ U8)/\W.cell? ⟨g,7,none⟩=some (I_ P.hand)/\W.cell? ⟨g,8,none⟩=some (I_ P.limit)) from fun W h=>(H.o.x.below h).c9)
   have ae:=Below.refl w4.heap.size w4;have aC:=ag.o _ (Below.bz ae);go_wp2_with fail;refine afi ag fun hHeld=>?_
   clear aC;obtain ⟨d,hd⟩:=XP w4.drew;rw [hd] at hHeld ⊢;replace ae:Below w4.heap.size w4 d:=hd ▸ Below.bz ae;clear hd;refine afU 0 ?_;refine ahk 2 fun K hK=>?_
   (go_simp;go_at_call 13;refine (az.o _ ae).mono ?_;rintro en v1 ⟨rfl,hb⟩;have ah:=ae.trans ((hb).mono ae.size);clear hb;have aI:=ag.o v1 ah;rw [aF.o];go_wp2_with fail)
   refine afS hK fun hHeld=>?_
   clear hK K;refine afU 3 ?_;refine ac' 5 ?_;refine ahk 6 fun K hK=>?_
   (go_simp;go_at_call 14;refine (XH.o _ ah).mono ?_;rintro en v2 ⟨rfl,hb⟩;have aj:=ah.trans ((hb).mono ah.size);clear hb;have aH:=ag.o v2 aj;rw [WZ.o];go_wp2_with fail)
   refine afS hK fun hHeld=>?_
   clear hK K;refine afU 7 ?_;refine ac' 9 ?_;refine afU 11 ?_;refine ahk 10 fun K hK=>?_
   (go_simp;go_at_call 15;refine (au.o _ aj).mono ?_;rintro en v3 ⟨rfl,hb⟩;have ax:=aj.trans ((hb).mono aj.size);clear hb;have aG:=ag.o v3 ax;go_wp2_with fail)
   refine afS hK fun hHeld=>?_
   clear hK K;have aB:=aA.o;refine afU 13 ?_;refine ac' 15 ?_;refine wpAnyH_done (by kernel_rfl) ?_ _;clear aB;go_wp2_with fail;go_ret;exact ⟨rfl,H.o.b.trans (ax.mono H.o.b.size)⟩
 have ay:(1048576:Int)<(len0:Int):=by omega
 clear h0;go_enter func3,ntmps3;go_wp2_with fail;go_ret;exact ⟨rfl,Below.refl _ _⟩
end Go.Proofs.YthcmmoibpgcgaaaGreatDoor
