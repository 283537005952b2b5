/- The law FnPagerWord: words are where the pages are. -/
import Derived.Test.YthcmmoibpgcgaaaGreatDoorLKQh
set_option linter.all false
set_option maxHeartbeats 8000000
set_option maxRecDepth 100000
open Go.Proofs.Tryz
namespace Go.Proofs.YthcmmoibpgcgaaaGreatDoor
open Go.RowKit Kx

end Go.Proofs.YthcmmoibpgcgaaaGreatDoor
namespace Kx
theorem ae {p:aH} (h:rZ p) {a:Nat} (ha:a<64):Ro p (a:Int)=Uo p a /\
  ((aA p.pages (a / 4)).wh=0/\Uo p a=0\/(aA p.pages (a / 4)).wh=1/\0<=(aA p.pages (a / 4)).at_/\(aA p.pages (a / 4)).at_<=11/\Uo p a=word p.k.mem (aA p.pages (a / 4)).at_.toNat (a % 4) \/
   (aA p.pages (a / 4)).wh=2/\0<=(aA p.pages (a / 4)).at_/\(aA p.pages (a / 4)).at_<=15/\(row p.swap (aA p.pages (a / 4)).at_.toNat).isEmpty=false/\dQ (row p.swap (aA p.pages (a / 4)).at_.toNat)=true/\Uo p a=word p.swap (aA p.pages (a / 4)).at_.toNat (a % 4)):=by
 have aP:bK (a:Int) 0 63=true:=ay.2 (by omega);refine ⟨by unfold Ro;rw [iD.2 h,aP];simp,?_⟩;have hp:=h.page (a / 4) (by omega);unfold At at hp;unfold Uo;rcases hp with ⟨h1,_⟩ | ⟨h1,h2,h3,_⟩ | ⟨h1,h2,h3,h4,_⟩
 ·left;simp [h1]
 ·right;left;simp [h1,h2,h3]
 right;right
 have hs:=(gy.1 h.swap).2 (aA p.pages (a / 4)).at_.toNat (by omega);rw [h4] at hs;have hw:dQ (row p.swap (aA p.pages (a / 4)).at_.toNat)=true:=by simpa using hs
 simp [h1,h2,h3,h4,hw]
end Kx
namespace Go.Proofs.YthcmmoibpgcgaaaGreatDoor
open Go.RowKit Kx

theorem FnPagerWord_c (a:Option Addr) (len0 cap0:Nat) (zr:List Int) (w:World) (h0:abT .u8 w a len0 cap0 zr) :
  Calls prog 5 #[.slice a len0 cap0] w (aez w):=by
 by_cases hl0:len0<=1048576
 ·have aB:¬ (1048576:Int)<(len0:Int):=by omega
  have Hr:=af (abT.rb h0);clear h0;go_enter func5,ntmps5;go_wp2_with fail;clear aB;refine (DrawPagerWord_c _ _ _ Hr.o).mono ?_;rintro en w1 ⟨P,ad,_,_,_,_,_,_,_,rfl,⟨⟨b0,xN,wL,rfl⟩,⟨b1,zH,xC,rfl⟩,⟨b2,wM,qB,rfl⟩,⟨b3,zI,zJ,rfl⟩,⟨b4,UT,UW,rfl⟩,⟨b5,UX,UY,rfl⟩,⟨b6,UZ,U8,rfl⟩⟩,hs,hp,hb⟩;unfold bU;obtain ⟨w2,aj⟩:∃ V,w1.alloc (.cells #[.slice b0 xN wL,.slice b1 zH xC,.slice b2 wM qB,.slice b3 zI zJ,.slice b4 UT UW,.slice b5 UX UY,.slice b6 UZ U8,I_ P.hand,I_ P.limit] 32)=V:=⟨_,rfl⟩;have B2:Below w1.heap.size w1 w2:=aj ▸ dm;have H:=af (show LSP w w2 w1.heap.size P (.slice b0 xN wL) (.slice b1 zH xC) (.slice b2 wM qB) (.slice b3 zI zJ) (.slice b4 UT UW) (.slice b5 UX UY) (.slice b6 UZ U8) from ⟨hb.trans (B2.mono hb.size),aj ▸ BX.new w1 _ _,hp.below B2,hs⟩);obtain ⟨g,hg⟩:=XP w1.heap.size;rw [hg] at H
  clear hs hp hb B2 Hr;have c0:=H.o.x.c9;go_wp2_with fail
  try rw [aj]
  try rw [hg]
  clear aj hg c0;have HC:=af (aea P ad _ _ _ _ _ _ _ _ H.o.r H.o.s);unfold bU at HC;refine HC.o.mono ?_;rintro en w3 ⟨rfl,hb⟩;clear HC;replace H:=af (H.o.go hb);clear hb;have c0:=H.o.x.c9;go_wp2_with fail;clear c0;have HC:=af (aeb P ad _ _ _ _ _ _ _ _ H.o.r H.o.s);unfold bU at HC;refine HC.o.mono ?_;rintro en w4 ⟨rfl,hb⟩;clear HC;replace H:=af (H.o.go hb);clear hb;obtain ⟨out,ag⟩:∃ x,Kx.Ro P ad=x:=⟨_,rfl⟩;rw [ag];have BV:=af ag;have HC:=af (n_ P _ _ _ _ _ _ _ _ H.o.r H.o.s);unfold bU at HC;clear ag;have c0:=H.o.x.c9;go_wp2_with fail;clear c0;refine HC.o.mono ?_;rintro en w5 ⟨rfl,hb⟩;clear HC;replace H:=af (H.o.go hb);clear hb
  cases ax:bI P with
  | false =>
   clear ax;go_wp2_with fail;go_ret;exact ⟨rfl,H.o.b⟩
  | true =>
   have bF:=af ax;clear ax
   by_cases ha0:ad<0
   ·have ai:decide (ad<0)=true:=decide_eq_true ha0;go_wp2_with fail;go_ret;exact ⟨rfl,H.o.b⟩
   by_cases ha1:64<=ad
   ·have ai:decide (ad<0)=false:=decide_eq_false ha0;go_wp2_with fail;go_ret;exact ⟨rfl,H.o.b⟩
   obtain ⟨j,rfl⟩:=Int.eq_ofNat_of_zero_le (show 0<=ad by omega);have hj:j<64:=by omega
   have Hp:=af (Kx.iD.1 bF.o);have ah:=af (Kx.ae Hp.o hj);rw [ah.o.1] at BV;rw [BV.o] at ah;obtain ⟨q4,aF⟩:∃ x,j / 4=x:=⟨_,rfl⟩;obtain ⟨r4,aC⟩:∃ x,j % 4=x:=⟨_,rfl⟩;have P6:(j:Int).tdiv 4=(q4:Int):=by rw [Int.tdiv_eq_ediv_of_nonneg (by omega)];omega
   have aQ:(j:Int).tmod 4=(r4:Int):=by rw [Int.tmod_eq_emod_of_nonneg (by omega)];omega
   have aU:IntKind.i64.wrap (q4:Int)=(q4:Int):=IntWalk.i64_in _ (by omega);have aS:IntKind.i64.wrap (r4:Int)=(r4:Int):=IntWalk.i64_in _ (by omega);have au:=af (show P.pages.length=16 from (fM bF.o).2.2.2);obtain ⟨bp,op,cp,ev,hbb,h1,h2,h3⟩:=rP.at H.o.r.g (k:=q4) (by rw [au.o];omega);rw [au.o] at ev;obtain ⟨rfl,rfl,rfl⟩:=Za ev;clear ev;rw [aF,aC] at ah;have aeX:q4<16:=by omega
   have Wq:(q4:Int)<16:=by omega
   have Oz:=af (show r4<4 by omega);have aG:(r4:Int)<4:=by omega
   have ai:decide ((j:Int)<0)=false:=decide_eq_false ha0;have aJ:(j:Int)<64:=by omega
   clear aF aC au;generalize Kx.aA P.pages q4=pg at h1 h2 h3 ah;obtain ⟨wh,at_,us⟩:=pg;simp only at h1 h2 h3 ah;obtain ⟨w6,hw6⟩:∃ V,w5.alloc (.cells #[I_ wh,I_ at_,.bool us] 42)=V:=⟨_,rfl⟩;have B6:Below w5.heap.size w5 w6:=hw6 ▸ dm;have ak:=af (show BX w6 w5.heap.size 42 [I_ wh,I_ at_,.bool us] from hw6 ▸ BX.new w5 _ _);have H6:=af (H.o.go B6);obtain ⟨x0,x1,x2⟩:w6.cell? ⟨w5.heap.size,0,none⟩=some (I_ wh)/\w6.cell? ⟨w5.heap.size,1,none⟩=some (I_ at_)/\w6.cell? ⟨w5.heap.size,2,none⟩=some (.bool us):=⟨ak.o.cell 0,ak.o.cell 1,ak.o.cell 2⟩;have c0:=H.o.x.c9;have d0:=H6.o.x.c9;clear B6;rcases ah.o.2 with ⟨e1,e2⟩ | ⟨e1,e2,e3,e4⟩ | ⟨e1,e2,e3,e4,e5,e6⟩
   ·subst e1;subst e2;clear BV;go_wp2_with fail;go_ret;exact ⟨rfl,H6.o.b⟩
   ·subst e1;obtain ⟨f,rfl⟩:=Int.eq_ofNat_of_zero_le e2;rw [Int.toNat_natCast] at e4;have hf:f<12:=by omega
    have az:=af (aI (fM bF.o).1).1;have HM:=af (Dz P.k.mem f r4 _ w6 H6.o.r.k.m az.o hf Oz.o);rw [<-e4] at HM;clear e2 e3 e4 BV az;go_wp2_with fail;refine HM.o.mono ?_;rintro en w7 ⟨rfl,hb⟩;replace H6:=af (H6.o.go hb);clear hb HM;go_wp2_with fail;go_ret;exact ⟨rfl,H6.o.b⟩
   subst e1;obtain ⟨f,rfl⟩:=Int.eq_ofNat_of_zero_le e2;rw [Int.toNat_natCast] at e4 e5 e6;have hf:f<16:=by omega
   have HS:=af (implSwapGet_c P.swap f _ w6 H6.o.r.s Hp.o.swap hf e4);have MC:=af (show (Kx.row P.swap f).length=4 by unfold Kx.dQ at e5;simp only [Bool.and_eq_true,beq_iff_eq] at e5;exact e5.2);have aK:=af e6;clear e2 e3 e4 e5 e6 BV;go_wp2_with fail;refine HS.o.mono ?_;rintro en w7 ⟨u,rfl,hu,hb⟩;replace H6:=af (H6.o.go hb);clear hb HS;obtain ⟨bu,ou,cu,eu,hbu,aN⟩:=hu.at (k:=r4) (by rw [MC.o];exact Oz.o);rw [MC.o] at eu;subst eu;rw [show (Kx.row P.swap f)[r4]'(by rw [MC.o];exact Oz.o)=out by rw [aK.o];unfold Kx.word;rw [List.getD_eq_getElem?_getD,List.getElem?_eq_getElem (by rw [MC.o];exact Oz.o)];rfl] at aN;have aO:=Oz.o;clear hu;go_wp2_with fail;go_ret;exact ⟨rfl,H6.o.b⟩
 have aB:(1048576:Int)<(len0:Int):=by omega
 clear h0;go_enter func5,ntmps5;go_wp2_with fail;go_ret;exact ⟨rfl,Below.refl _ _⟩
end Go.Proofs.YthcmmoibpgcgaaaGreatDoor
