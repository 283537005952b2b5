/- The law FnPagerSees: what is in a frame is seen. -/
import Derived.Test.YthcmmoibpgcgaaaGreatDoorLKQh
set_option linter.all false
set_option maxHeartbeats 8000000
set_option maxRecDepth 100000
open Go.Proofs.Tryz
namespace Go.Proofs.YthcmmoibpgcgaaaGreatDoor
open Go.RowKit Kx

end Go.Proofs.YthcmmoibpgcgaaaGreatDoor
namespace Kx
theorem Nv {k:Kernel} (hk:Ok k) {env:Int} (he:bK env 0 2=true) (ad:Int):sees k env ad=(if bK ad 0 63=true/\0<=(au k.ah env.toNat).root/\(walk k.mem (au k.ah env.toNat).root.toNat ad.toNat).2=0 then
  (word k.mem (walk k.mem (au k.ah env.toNat).root.toNat ad.toNat).1.1.toNat (ad % 4).toNat,true) else (0,false)):=by
 unfold sees;rw [nN.2 hk,he]
 cases ha:bK ad 0 63 with
 | false=>simp
 | true =>
  have h1:=ay.1 ha
  by_cases hr:(au k.ah env.toNat).root<0
  ·have ak:¬ 0<=(au k.ah env.toNat).root:=by omega
   simp [hr,ak]
  rw [decide_eq_false hr];have ak:0<=(au k.ah env.toNat).root:=by omega
  have hw:=fun p h=>v_ (m:=k.mem) (root:=(au k.ah env.toNat).root.toNat) (ad:=ad.toNat) (p:=p) h
  generalize walk k.mem (au k.ah env.toNat).root.toNat ad.toNat=W at hw ⊢;obtain ⟨⟨f,a,b⟩,code⟩:=W
  by_cases hc:code=0
  ·subst hc;obtain ⟨t,f',a',b',_,_,hp,_⟩:=hw _ rfl;simp only [Prod.mk.injEq] at hp;have e:a.toNat=(ad % 4).toNat:=by rw [hp.2.1];omega
   simp [ak,e]
  simp [hc]
theorem ae {p:aH} (h:rZ p) {a:Nat} (ha:a<64):walk p.k.mem (au p.k.ah 0).root.toNat a =
  if (aA p.pages (a / 4)).wh=1 then ((((aA p.pages (a / 4)).at_.toNat:Int),((a % 4:Nat):Int),true),0) else ((0,0,false),2):=by
 have hl:=h.low;have aJ:a / 16<4:=by omega
 have hr:=hl.lr (a / 16) aJ;have hp:=h.page (a / 4) (by omega);have e1:a / 4 / 4=a / 16:=by omega
 unfold walk;rw [hl.lw (a / 16) aJ,jf (by omega)];simp only;unfold At pw at hp;rw [e1] at hp;rcases hp with ⟨h1,_,h2⟩ | ⟨h1,h3,h4,h2,_⟩ | ⟨h1,_,_,_,_,h2⟩
 ·rw [h2,g_,if_neg (by omega)]
 ·rw [h2,jf (by omega),if_pos h1];rfl
 rw [h2,g_,if_neg (by omega)]
theorem ai {p:aH} (h:rZ p) {a:Nat} (ha:a<64):sees p.k 0 (a:Int)=if (aA p.pages (a / 4)).wh=1 then (Uo p a,true) else (0,false):=by
 have hr:=h.low.r0;rw [Nv h.low.ok (env:=0) (by decide)];have ax:bK (a:Int) 0 63=true:=ay.2 (by omega);have e4:((a:Int) % 4).toNat=a % 4:=by omega
 rw [show (0:Int).toNat=0 from rfl,Int.toNat_natCast,ae h ha,ax,e4];unfold Uo
 by_cases h1:(aA p.pages (a / 4)).wh=1
 ·simp only [h1,hr,if_true,true_and,Int.toNat_natCast]
 simp [h1]
theorem aj {p:aH} (h:rZ p) {a:Nat} (ha:a<64):Ro p (a:Int)=Uo p a /\
  ((aA p.pages (a / 4)).wh=0/\Uo p a=0\/(aA p.pages (a / 4)).wh=1/\0<=(aA p.pages (a / 4)).at_/\(aA p.pages (a / 4)).at_<=11/\Uo p a=word p.k.mem (aA p.pages (a / 4)).at_.toNat (a % 4) \/
   (aA p.pages (a / 4)).wh=2/\0<=(aA p.pages (a / 4)).at_/\(aA p.pages (a / 4)).at_<=15/\(row p.swap (aA p.pages (a / 4)).at_.toNat).isEmpty=false/\dQ (row p.swap (aA p.pages (a / 4)).at_.toNat)=true/\Uo p a=word p.swap (aA p.pages (a / 4)).at_.toNat (a % 4)):=by
 have ax:bK (a:Int) 0 63=true:=ay.2 (by omega);refine ⟨by unfold Ro;rw [iD.2 h,ax];simp,?_⟩;have hp:=h.page (a / 4) (by omega);unfold At at hp;unfold Uo;rcases hp with ⟨h1,_⟩ | ⟨h1,h2,h3,_⟩ | ⟨h1,h2,h3,h4,_⟩
 ·left;simp [h1]
 ·right;left;simp [h1,h2,h3]
 right;right
 have hs:=(gy.1 h.swap).2 (aA p.pages (a / 4)).at_.toNat (by omega);rw [h4] at hs;have hw:dQ (row p.swap (aA p.pages (a / 4)).at_.toNat)=true:=by simpa using hs
 simp [h1,h2,h3,h4,hw]
end Kx
namespace Go.Proofs.YthcmmoibpgcgaaaGreatDoor
open Go.RowKit Kx

theorem FnPagerSees_c (a:Option Addr) (len0 cap0:Nat) (zr:List Int) (w:World) (h0:abT .u8 w a len0 cap0 zr) :
  Calls prog 4 #[.slice a len0 cap0] w (aez w):=by
 by_cases hl0:len0<=1048576
 ·have aI:¬ (1048576:Int)<(len0:Int):=by omega
  have Hr:=af (abT.rb h0);clear h0;go_enter func4,ntmps4;go_wp2_with fail;clear aI;refine (DrawPagerValid_c _ _ _ Hr.o).mono ?_;rintro en w1 ⟨P,_,_,_,_,_,_,_,rfl,⟨⟨b0,xN,wL,rfl⟩,⟨b1,zH,xC,rfl⟩,⟨b2,wM,qB,rfl⟩,⟨b3,zI,zJ,rfl⟩,⟨b4,UT,UW,rfl⟩,⟨b5,UX,UY,rfl⟩,⟨b6,UZ,U8,rfl⟩⟩,hs,hp,hb⟩;unfold bU;obtain ⟨w2,ag⟩:∃ V,w1.alloc (.cells #[.slice b0 xN wL,.slice b1 zH xC,.slice b2 wM qB,.slice b3 zI zJ,.slice b4 UT UW,.slice b5 UX UY,.slice b6 UZ U8,I_ P.hand,I_ P.limit] 32)=V:=⟨_,rfl⟩;have B2:Below w1.heap.size w1 w2:=ag ▸ dm;have H:=af (show LSP w w2 w1.heap.size P (.slice b0 xN wL) (.slice b1 zH xC) (.slice b2 wM qB) (.slice b3 zI zJ) (.slice b4 UT UW) (.slice b5 UX UY) (.slice b6 UZ U8) from ⟨hb.trans (B2.mono hb.size),ag ▸ BX.new w1 _ _,hp.below B2,hs⟩);obtain ⟨g,hg⟩:=XP w1.heap.size;rw [hg] at H
  clear hs hp hb B2 Hr;have c0:=H.o.x.c9;go_wp2_with fail
  try rw [ag]
  try rw [hg]
  clear ag hg c0;have HC:=af (ack P _ _ _ _ _ _ _ _ H.o.r H.o.s);unfold bU at HC;refine HC.o.mono ?_;rintro en w3 ⟨rfl,hb⟩;clear HC;replace H:=af (H.o.go hb);clear hb;have c0:=H.o.x.c9;go_wp2_with fail;clear c0;have HC:=af (n_ P _ _ _ _ _ _ _ _ H.o.r H.o.s);unfold bU at HC;refine HC.o.mono ?_;rintro en w4 ⟨rfl,hb⟩;clear HC;replace H:=af (H.o.go hb);clear hb
  cases aB:bI P with
  | false =>
   clear aB;go_wp2_with fail;go_ret;exact ⟨rfl,H.o.b⟩
  | true =>
   have bF:=af aB;clear aB;have Hp:=af (Kx.iD.1 bF.o);have H4:=H;obtain ⟨wz,hwz⟩:∃ V,V=w4:=⟨_,rfl⟩;subst hwz;go_wp2_with fail;go_loopw [6] (fun i wr=>∃ j:Nat,i=I_ j/\j<=64/\TI (Below wz.heap.size wz wr)) (fun i _=>64 - (intOf i).toNat)
   case atStart=>exact ⟨0,rfl,Nat.zero_le _,Below.refl _ _⟩
   case round =>
    obtain ⟨j,rfl,hj,hb⟩:=hrel;replace H:=af (H4.o.go hb.o)
    by_cases hlt:j<64
    ·have kQ:(j:Int)<64:=by omega
     have HC:=af (oG P.k 0 (j:Int) _ _ _ _ wr H.o.r.k H.o.s);have HW:=af (Kx.aj Hp.o hlt).1;rw [Kx.ai Hp.o hlt] at HC;obtain ⟨x,hx⟩:=XP (Kx.Uo P j);rw [hx] at HC HW;clear hx;have c0:=H.o.x.c9;go_wp2_with fail;clear c0;refine HC.o.mono ?_;rintro en w5 ⟨rfl,aF⟩;clear HC;replace H:=af (H.o.go aF);replace hb:=af (hb.o.trans (aF.mono hb.o.size));clear aF;obtain ⟨q4,aC⟩:∃ x,j / 4=x:=⟨_,rfl⟩;have P6:(j:Int).tdiv 4=(q4:Int):=by rw [Int.tdiv_eq_ediv_of_nonneg (by omega)];omega
     have aO:IntKind.i64.wrap (q4:Int)=(q4:Int):=IntWalk.i64_in _ (by omega);have az:=af (show P.pages.length=16 from (fM bF.o).2.2.2);obtain ⟨bp,op,cp,ev,hbb,h1,_,_⟩:=rP.at H.o.r.g (k:=q4) (by rw [az.o];omega);rw [az.o] at ev;obtain ⟨rfl,rfl,rfl⟩:=Za ev;clear ev;rw [aC];have aeX:q4<16:=by omega
     have Wq:(q4:Int)<16:=by omega
     have aN:=af aC;clear aC az;generalize (Kx.aA P.pages q4).wh=y at h1 ⊢;have c0:=H.o.x.c9
     by_cases hy:y=1
     ·subst hy;rw [if_pos rfl];have Ve:=af (aea P (j:Int) _ _ _ _ _ _ _ w5 H.o.r H.o.s);unfold bU at Ve;rw [HW.o] at Ve;go_wp2_with fail;refine Ve.o.mono ?_;rintro en w6 ⟨rfl,aG⟩;have aK:=af (hb.o.trans (aG.mono hb.o.size));clear aG Ve;go_wp2_with fail;go_roundw
      case rel=>exact ⟨j+1,by go_num,by omega,aK⟩
      case measure=>simp [intOf];omega
     rw [if_neg hy];have aP:(y==1)=false:=by simpa using hy
     clear hy;go_wp2_with fail;go_roundw
     case rel=>exact ⟨j+1,by go_num,by omega,hb⟩
     case measure=>simp [intOf];omega
    go_wp2_with fail;go_ret;exact ⟨rfl,H.o.b⟩
 have aI:(1048576:Int)<(len0:Int):=by omega
 clear h0;go_enter func4,ntmps4;go_wp2_with fail;go_ret;exact ⟨rfl,Below.refl _ _⟩
end Go.Proofs.YthcmmoibpgcgaaaGreatDoor
