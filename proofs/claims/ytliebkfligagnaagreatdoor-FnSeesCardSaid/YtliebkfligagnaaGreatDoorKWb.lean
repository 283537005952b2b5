/- KW19, KW20, KW21, KW22, joined. -/
import Derived.Test.YtliebkfligagnaaGreatDoorKW18
set_option maxHeartbeats 4000000
set_option linter.all false
namespace Go.Proofs.YtliebkfligagnaaGreatDoor
open Go.RowKit
theorem GU (p:Kx.aH) (n:Nat):Kx.dC p n=(if (Kx.aA p.pages n).wh=0 then (Kx.aA p.pages n)==Kx.dV.zero&&Kx.word p.k.mem ((p.low.getD (n / 4) 0).toNat) (n % 4)==0
 else if (Kx.aA p.pages n).wh=1 then Kx.bK (Kx.aA p.pages n).at_ 0 11&&Kx.word p.k.mem ((p.low.getD (n / 4) 0).toNat) (n % 4)==Kx.put (Kx.aA p.pages n).at_.toNat true&&decide ((Kx.inf p.k.ag (Kx.aA p.pages n).at_.toNat).guard=Kx.sA)&&(Kx.inf p.k.ag (Kx.aA p.pages n).at_.toNat).refs==1
 else if (Kx.aA p.pages n).wh=2 then Kx.bK (Kx.aA p.pages n).at_ 0 15&&!(Kx.row p.swap (Kx.aA p.pages n).at_.toNat).isEmpty&&!(Kx.aA p.pages n).used&&Kx.word p.k.mem ((p.low.getD (n / 4) 0).toNat) (n % 4)==0
 else false):=rfl
theorem GV (p:Kx.aH) (n:Nat) (vm vi ve vc vs vl vp:Value) (hand limit:Int) (w:World) (h:RP w vm vi ve vc vs vl vp p) (hmo:Kx.bW p.k.mem=true) (jI:p.k.ag.length=12) (hpl:p.pages.length=16) (hll:p.low.length=4) (hsw:Kx.jE p.swap=true)
  (hlo:∀ i,i<4→0≤p.low.getD i 0∧p.low.getD i 0≤11) (hn:n<16) :
  Calls Tryz.prog 276 #[bU vm vi ve vc vs vl vp hand limit,.int .i64 n] w fun e w'=>e=.returned (.bool (Kx.dC p n))∧Below w.heap.size w w':=by
 obtain ⟨w0,hw0⟩:∃ w0,w.alloc (.cells #[vm,vi,ve,vc,vs,vl,vp,.int .i64 hand,.int .i64 limit] 168)=w0:=⟨_,rfl⟩;have dB:=af (show Below w.heap.size w w0 from hw0 ▸ (Below.refl w.heap.size w).alloc aW _);have jF:=af (show su w0 w.heap.size vm vi ve vc vs vl vp hand limit from hw0 ▸ su.new w vm vi ve vc vs vl vp hand limit _);have HP:=af (h.below dB.out);have bF:=af (GU p n);obtain ⟨q,hq⟩:∃ q,n / 4=q:=⟨_,rfl⟩;obtain ⟨r,hr⟩:∃ r,n % 4=r:=⟨_,rfl⟩;have eq:(n:Int) / 4=(q:Int):=by omega
 have er:(n:Int) % 4=(r:Int):=by omega
 have hq4:(q:Int)<4:=by omega
 have et:(n:Int).tmod 4=(r:Int):=by rw [Int.tmod_eq_emod_of_nonneg (by omega)];exact er
 have hr0:(0:Int)≤(r:Int):=by omega
 have ZC:IntKind.i64.wrap (q:Int)=(q:Int):=IntWalk.i64_in _ (by omega);have hq0:(0:Int)≤(q:Int):=by omega
 have hr4:(r:Int)<4:=by omega
 have MJ:(n:Int)<16:=by omega
 rw [hq,hr] at bF;obtain ⟨bp,op,cp,rfl,hbp,g0,g1,g2⟩:=rP.at HP.out.g (k:=n) (by omega);obtain ⟨bl,ol,cl,rfl,hbl,hcl⟩:=HP.out.l.at (k:=q) (by omega);have hget:p.low[q]'(by omega)=p.low.getD q 0:=by simp [show q<p.low.length by omega]
 rw [hget] at hcl;obtain ⟨hf0,Px⟩:=hlo q (by omega);generalize p.low.getD q 0=f at hcl hf0 Px bF;obtain ⟨f0,rfl⟩:=Int.eq_ofNat_of_zero_le hf0;rw [Int.toNat_natCast] at bF;have dG:f0<12:=by omega
 have wJ:(f0:Int)<12:=by omega
 have nM:=af jI;have kG:=af hmo;have ZE:=af hsw;have k6:=jF.out.2.1.2.2.1;obtain ⟨ai,ci,rfl,_,_⟩:=RS.val HP.out.k.i;obtain ⟨pg,hx⟩:∃ pg,Kx.aA p.pages n=pg:=⟨_,rfl⟩;rw [hx] at g0 g1 g2 bF;clear hx hget hf0 Px hlo;obtain ⟨x,y,z⟩:=pg;dsimp only at g0 g1 g2 bF;obtain ⟨W1,hW1⟩:∃ W1,w0.alloc (.cells #[.int .i64 x,.int .i64 y,.bool z] 252)=W1:=⟨_,rfl⟩;have B1:=af (show Below w0.heap.size w0 W1 from hW1 ▸ dm);obtain ⟨c0,c1,c2⟩:=(show W1.cell? ⟨w0.heap.size,0,none⟩=some (.int .i64 x)∧W1.cell? ⟨w0.heap.size,1,none⟩=some (.int .i64 y)∧W1.cell? ⟨w0.heap.size,2,none⟩=some (.bool z) from hW1 ▸ Dh.new w0 _ _ _ 252);have Vr:=af (HP.out.below B1.out);have Vs:=af (show w0.heap.size<W1.heap.size from hW1 ▸ by simp);obtain ⟨bm,om,cm,bq,oq,cq,rfl,n1,n2,_,_⟩:=Vr.out.k.m.word kG.out (f:=f0) (a:=r) dG (by omega);generalize Kx.word p.k.mem f0 r=wd at n2 bF
 obtain ⟨⟨m0,m1,m2,m3⟩,⟨m4,m5,m6,m7,m8⟩,_⟩:=jF.out.below B1.out;have ZF:W1.cell? ⟨bl,ol+q,none⟩=some (.int .i64 f0):=(B1.out.cell (p:=⟨bl,ol+q,none⟩) hbl).trans hcl;have HB:=af (Below.bz (dB.out.trans (B1.out.mono dB.out.size)));rw [hpl] at m6 k6 hw0 ⊢;rw [hll] at m5 hw0 ⊢;clear h jI hmo hsw hbp hbl hq hr hcl;clear hpl hll;unfold bU;go_enter Tryz.func276,Tryz.ntmps276;go_wp2_with fail;clear hW1 hw0;refine wp_region_held_drew (S:=(fun wz=>wz.cell? ⟨w.heap.size,0,none⟩=some (.slice (some ⟨bm,om,none⟩) 12 cm)∧wz.cell? ⟨w.heap.size,5,none⟩=some (.slice (some ⟨bl,ol,none⟩) 4 cl)∧wz.cell? ⟨bl,ol+q,none⟩=some (.int .i64 f0)∧wz.cell? ⟨bm,om+f0,none⟩=some (.slice (some ⟨bq,oq,none⟩) 4 cq)∧wz.cell? ⟨bq,oq+r,none⟩=some (.int .i64 wd))) (by kernel_rfl) (by first | assumption | go_keep) (fun hHeld=>?_)
 refine tH 0 ?_;refine tH 1 ?_;refine tH 2 ?_;refine tH 3 ?_;refine tH 4 ?_;refine tH 5 ?_;refine tH 6 ?_;refine tH 7 ?_;refine tH 8 ?_;refine tH 9 ?_;refine tH 10 ?_;refine tH 11 ?_;refine tH 12 ?_;refine tH 13 ?_;refine tH 14 ?_;refine tH 15 ?_;refine wpAnyH_done (by kernel_rfl) ?_ _;clear eq er ZC et
 by_cases h0:x=0
 ·subst h0;have bF:=af (show Kx.dC p n=(((⟨0,y,z⟩:Kx.dV)==Kx.dV.zero)&&wd==0) from bF.out)
  by_cases hy:y=0
  case neg =>
   have HF:=af (show Kx.dC p n=false by rw [bF.out,show ((⟨0,y,z⟩:Kx.dV)==Kx.dV.zero)=false from by simp [Kx.dV.zero,hy],Bool.false_and]);have hyb:(y==0)=false:=by simpa using hy
   clear bF hy;go_wp2_with fail;go_ret;exact ⟨ak HF.out.symm,HB.out⟩
  subst hy
  cases z
  case true =>
   have HF:=af (show Kx.dC p n=false by rw [bF.out];rfl);clear bF;go_wp2_with fail;go_ret;exact ⟨ak HF.out.symm,HB.out⟩
  have HF:=af (show Kx.dC p n=(wd==0) by rw [bF.out];rfl);clear bF;go_wp2_with fail;go_ret;exact ⟨ak HF.out.symm,HB.out⟩
 have hxa:(x==0)=false:=by simpa using h0
 by_cases h1:x=1
 ·subst h1;have bF:=af (show Kx.dC p n=(Kx.bK y 0 11&&wd==Kx.put y.toNat true&&decide ((Kx.inf p.k.ag y.toNat).guard=Kx.sA)&&(Kx.inf p.k.ag y.toNat).refs==1) from bF.out);go_wp2_with fail;refine (dI _ _).mono ?_;rintro e w' ⟨rfl,rfl⟩
  cases hin:Kx.bK y 0 11 with
  | false =>
   have HF:=af (show Kx.dC p n=false by rw [bF.out,hin];rfl);clear hin bF h0 hxa;go_wp2_with fail;go_ret;exact ⟨ak HF.out.symm,HB.out⟩
  | true =>
   obtain ⟨y0,ZG⟩:=Kx.ay.1 hin;obtain ⟨g,rfl⟩:=Int.eq_ofNat_of_zero_le y0;rw [hin,Bool.true_and,Int.toNat_natCast] at bF;have zM:g<12:=by omega
   obtain ⟨bi,oi,ci',ev,_,j0,j1,j2⟩:=bV.at Vr.out.k.i (k:=g) (by rw [nM.out];exact zM);simp only [Value.slice.injEq] at ev;obtain ⟨rfl,_,rfl⟩:=ev;have Vt:(g:Int)<(p.k.ag.length:Int):=by rw [nM.out];omega
   clear hin y0 h0 hxa;generalize (Kx.inf p.k.ag g).guard=gf at j1 bF;generalize (Kx.inf p.k.ag g).refs=rf at j2 bF;go_wp2_with fail;refine (l9 g true _ zM).mono ?_;rintro e w' ⟨rfl,rfl⟩;generalize Kx.put g true=pw at bF ⊢
   by_cases hw:wd=pw
   case neg =>
    have hwb:(wd==pw)=false:=by simpa using hw
    have HF:=af (show Kx.dC p n=false by rw [bF.out,hwb];rfl);clear bF hw;go_wp2_with fail;go_ret;exact ⟨ak HF.out.symm,HB.out⟩
   subst hw;rw [beq_self_eq_true,Bool.true_and] at bF
   by_cases hg:gf=Kx.sA
   case neg =>
    have hgt:=toList_inj hg;have hgd:decide (ByteArray.toList gf=[97])=false:=by simpa using hgt
    have hge:(ByteArray.toList gf==[97])=false:=by simpa using hgt
    have HF:=af (show Kx.dC p n=false by rw [bF.out,show decide (gf=Kx.sA)=false from by simpa using hg];rfl);clear bF hg;go_wp2_with fail;go_ret;exact ⟨ak HF.out.symm,HB.out⟩
   have HF:=af (show Kx.dC p n=(rf==1) by rw [bF.out,show decide (gf=Kx.sA)=true from by simpa using hg];simp);unfold Kx.sA at hg;subst hg;clear bF;go_wp2_with fail;go_ret;exact ⟨ak HF.out.symm,HB.out⟩
 have hxb:(x==1)=false:=by simpa using h1
 by_cases h2:x=2
 ·subst h2;have bF:=af (show Kx.dC p n=(Kx.bK y 0 15&&!(Kx.row p.swap y.toNat).isEmpty&&!z&&wd==0) from bF.out);have HG:=af (show rQ p.swap y=(Kx.bK y 0 15&&!(Kx.row p.swap y.toNat).isEmpty) by unfold rQ;rw [ZE.out,Bool.true_and]);clear h0 h1 hxa hxb;go_wp2_with fail;refine (GX p.swap y _ W1.drew (show RM W1.drew _ _ from Vr.out.s)).mono ?_;rintro e w3 ⟨u3,rfl,_,hb3⟩;have d2:w3.cell? ⟨w0.heap.size,2,none⟩=some (.bool z):=((Below.gG hb3).cell (p:=⟨w0.heap.size,2,none⟩) Vs.out).trans c2;have HB3:=af (HB.out.trans (hb3.mono HB.out.size));clear hb3 c0 c1 c2
  cases hgo:rQ p.swap y with
  | false =>
   have HF:=af (show Kx.dC p n=false by rw [bF.out,←HG.out,hgo];rfl);clear bF HG hgo;go_wp2_with fail;go_ret;exact ⟨ak HF.out.symm,HB3.out⟩
  | true =>
   have bF:=af (show Kx.dC p n=(!z&&wd==0) by rw [bF.out,←HG.out,hgo];simp);clear HG hgo
   cases z
   ·have HF:=af (show Kx.dC p n=(wd==0) by rw [bF.out];rfl);clear bF;go_wp2_with fail;go_ret;exact ⟨ak HF.out.symm,HB3.out⟩
   have HF:=af (show Kx.dC p n=false by rw [bF.out];rfl);clear bF;go_wp2_with fail;go_ret;exact ⟨ak HF.out.symm,HB3.out⟩
 have hxc:(x==2)=false:=by simpa using h2
 have HF:=af (show Kx.dC p n=false by rw [bF.out,if_neg h0,if_neg h1,if_neg h2]);clear bF h0 h1 h2;go_wp2_with fail;go_ret;exact ⟨ak HF.out.symm,HB.out⟩
def SS (wz:World) (p:Kx.aH) (b:Nat) (vm vi ve vc vs vl vp:Value):Prop:=wz.cell? ⟨b,0,none⟩=some vm∧wz.cell? ⟨b,1,none⟩=some vi∧wz.cell? ⟨b,2,none⟩=some ve∧wz.cell? ⟨b,3,none⟩=some vc∧wz.cell? ⟨b,4,none⟩=some vs∧wz.cell? ⟨b,5,none⟩=some vl∧wz.cell? ⟨b,6,none⟩=some vp∧wz.cell? ⟨b,7,none⟩=some (.int .i64 p.hand)∧wz.cell? ⟨b,8,none⟩=some (.int .i64 p.limit)
theorem n_ (p:Kx.aH) (vm vi ve vc vs vl vp:Value) (w:World) (h:RP w vm vi ve vc vs vl vp p) (hs:iQ p.k) :
  Calls Tryz.prog 233 #[bU vm vi ve vc vs vl vp p.hand p.limit] w fun e w'=>e=.returned (.bool (Kx.bI p))∧Below w.heap.size w w':=by
 obtain ⟨w0,hw0⟩:∃ w0,w.alloc (.cells #[vm,vi,ve,vc,vs,vl,vp,.int .i64 p.hand,.int .i64 p.limit] 168)=w0:=⟨_,rfl⟩;have dB:=af (show Below w.heap.size w w0 from hw0 ▸ (Below.refl w.heap.size w).alloc aW _);have jF:=af (show su w0 w.heap.size vm vi ve vc vs vl vp p.hand p.limit from hw0 ▸ su.new w vm vi ve vc vs vl vp p.hand p.limit _);have HP:=af (h.below dB.out);have Hs:=af hs;obtain ⟨ap,cp,rfl,_,_⟩:=RS.val h.g;have hpl:=h.g.1;have HV:=af (show Kx.bI p=(Kx.az p.k&&Kx.jE p.swap&&Kx.alone p.k&&Kx.iC p&&p.pages.length==16&&Kx.mV p&&(List.range 16).all (Kx.dC p)&&Kx.bK p.hand 0 15&&Kx.bK p.limit 1 6&&decide ((Kx.countP p 1:Int)≤p.limit)) from rfl);obtain ⟨⟨m0,m1,m2,m3⟩,⟨m4,m5,m6,m7,m8⟩,_⟩:=jF.out;clear h hs;unfold bU;go_enter Tryz.func233,Tryz.ntmps233;go_wp2_with fail;clear hw0
 refine (kJ p.k vm vi ve vc _ HP.out.k Hs.out).mono ?_;rintro e w1 ⟨rfl,hb1⟩;have B1:=af (hb1);clear hb1 m0 m1 m2 m3 m4 m5 m6 m7 m8;obtain ⟨⟨m0,m1,m2,m3⟩,⟨m4,m5,m6,m7,m8⟩,_⟩:=jF.out.below B1.out
 cases hv:Kx.az p.k
 ·have HF:=af (show Kx.bI p=false by rw [HV.out,hv];simp);clear hv HV;go_wp2_with fail;go_ret;exact ⟨ak HF.out.symm,dB.out.trans (B1.out.mono dB.out.size)⟩
 have V1:=af hv;clear hv;have OK:=af (Kx.nN.1 V1.out);have Hm:=af (show Kx.bW p.k.mem=true from by have:=V1.out;unfold Kx.az at this;simp only [Bool.and_eq_true] at this;exact this.1.1.1.1.1.1);have Hi:=af (show p.k.ag.length=12 from by
  have:=V1.out;unfold Kx.az at this;simp only [Bool.and_eq_true] at this
  have:=this.1.1.1.1.1.2;unfold Kx.bC at this;simp only [Bool.and_eq_true] at this;simpa using this.2)
 have Ye:=af (show Kx.iw p.k=true from by have:=V1.out;unfold Kx.az at this;simp only [Bool.and_eq_true] at this;exact this.1.1.1.2);have He:=af (show p.k.ah.length=3 from by have:=Ye.out;unfold Kx.iw at this;simp only [Bool.and_eq_true] at this;simpa using this.2);have mW:=af (show (Kx.au p.k.ah 0).root≤11 from by
  have:=Ye.out
  unfold Kx.iw at this;rw [oZ] at this;simp only [Bool.and_eq_true,List.all_eq_true] at this;have h2:=this.1 0 (by rw [He.out];simp);unfold Ah Kx.qw at h2;simp only [Bool.and_eq_true] at h2;exact (Kx.ay.1 h2.1.1.2).2)
 go_wp2_with fail;refine (lY p.swap _ _ (HP.out.s.below B1.out)).mono ?_;rintro e w2 ⟨rfl,rfl⟩
 cases hv:Kx.jE p.swap
 ·have HF:=af (show Kx.bI p=false by rw [HV.out,hv];simp);clear hv HV;go_wp2_with fail;go_ret;exact ⟨ak HF.out.symm,dB.out.trans (B1.out.mono dB.out.size)⟩
 have V2:=af hv;clear hv;go_wp2_with fail;refine (EX p.k vm vi ve vc _ (HP.out.k.below B1.out) He.out).mono ?_;rintro e w3 ⟨rfl,hb3⟩;have B3:=af (B1.out.trans (hb3.mono B1.out.size));clear hb3 m0 m1 m2 m3 m4 m5 m6 m7 m8;obtain ⟨⟨m0,m1,m2,m3⟩,⟨m4,m5,m6,m7,m8⟩,_⟩:=jF.out.below B3.out
 cases hv:Kx.alone p.k
 ·have HF:=af (show Kx.bI p=false by rw [HV.out,hv];simp);clear hv HV;go_wp2_with fail;go_ret;exact ⟨ak HF.out.symm,dB.out.trans (B3.out.mono dB.out.size)⟩
 have V3:=af hv;clear hv;go_wp2_with fail;refine (Di p vm vi ve vc vs vl _ p.hand p.limit _ (HP.out.below B3.out) Hm.out Hi.out He.out mW.out).mono ?_;rintro e w4 ⟨rfl,hb4⟩;have B4:=af (B3.out.trans (hb4.mono B3.out.size));clear hb4 m0 m1 m2 m3 m4 m5 m6 m7 m8;obtain ⟨⟨m0,m1,m2,m3⟩,⟨m4,m5,m6,m7,m8⟩,_⟩:=jF.out.below B4.out
 cases hv:Kx.iC p
 ·have HF:=af (show Kx.bI p=false by rw [HV.out,hv];simp);clear hv HV;go_wp2_with fail;go_ret;exact ⟨ak HF.out.symm,dB.out.trans (B4.out.mono dB.out.size)⟩
 have V4:=af hv;clear hv;have Rw:=af (show p.low.length=4∧∀ i,i<4→0≤p.low.getD i 0∧p.low.getD i 0≤11 from by
  have:=V4.out
  unfold Kx.iC at this;simp only [Bool.and_eq_true,List.all_eq_true] at this;refine ⟨by simpa using this.1.1.1.2,fun i hi=>?_⟩
  have h2:=this.2 i (by simpa using hi);rw [xZ] at h2;simp only [Bool.and_eq_true] at h2;exact Kx.ay.1 h2.1.1.1)
 by_cases h16:p.pages.length=16
 case neg =>
  have HF:=af (show Kx.bI p=false by rw [HV.out,show (p.pages.length==16)=false from by simpa using h16];simp);have hlb:((p.pages.length:Int) != 16)=true:=by simp;omega
  have hlc:((p.pages.length:Int)==16)=false:=by simp;omega
  clear HV h16;go_wp2_with fail;go_ret;exact ⟨ak HF.out.symm,dB.out.trans (B4.out.mono dB.out.size)⟩
 have Ai:=af h16;have hlb:((p.pages.length:Int) != 16)=false:=by simp;omega
 have hlc:((p.pages.length:Int)==16)=true:=by simp;omega
 clear h16;go_wp2_with fail;refine (EY p vm vi ve vc vs vl _ p.hand p.limit _ (RS.below HP.out.g B4.out) (HP.out.s.below B4.out)).mono ?_;rintro e w5 ⟨rfl,hb5⟩;have B5:=af (B4.out.trans (hb5.mono B4.out.size));clear hb5 m0 m1 m2 m3 m4 m5 m6 m7 m8;obtain ⟨⟨m0,m1,m2,m3⟩,⟨m4,m5,m6,m7,m8⟩,_⟩:=jF.out.below B5.out
 cases hv:Kx.mV p
 ·have HF:=af (show Kx.bI p=false by rw [HV.out,hv];simp);clear hv HV;go_wp2_with fail;go_ret;exact ⟨ak HF.out.symm,dB.out.trans (B5.out.mono dB.out.size)⟩
 have V5:=af hv;clear hv;go_wp2_with fail;go_loopw [3] (fun i wr=>∃ q:Nat,i=.int .i64 q∧q≤p.pages.length∧Hid (∀ j,j<q→Kx.dC p j=true)∧Hid (Below w0.heap.size w0 wr)) (fun i _=>p.pages.length - (intOf i).toNat)
 case atStart=>exact ⟨0,rfl,Nat.zero_le _,fun j hj=>absurd hj (Nat.not_lt_zero _),B5.out⟩
 case round =>
  clear m0 m1 m2 m3 m4 m5 m6 m7 m8;obtain ⟨q,rfl,hq,hall,hb⟩:=hrel;obtain ⟨⟨m0,m1,m2,m3⟩,⟨m4,m5,m6,m7,m8⟩,hbl⟩:=jF.out.below hb.out
  by_cases hlt:q<p.pages.length
  ·have kQ:(q:Int)<(p.pages.length:Int):=by omega
   have HC:=af (GV p q vm vi ve vc vs vl _ p.hand p.limit wr (HP.out.below hb.out) Hm.out Hi.out Ai.out Rw.out.1 V2.out Rw.out.2 (by rw [←Ai.out];exact hlt))
   cases hv:Kx.dC p q with
   | false =>
    have HF:=af (show Kx.bI p=false by
     rw [HV.out,show (List.range 16).all (Kx.dC p)=false from by
      rw [List.all_eq_false];exact ⟨q,by rw [←Ai.out];simpa using hlt,by rw [hv];simp⟩];simp)
    have Hv:=af hv;clear hv HV;go_wp2_with fail;refine HC.out.mono ?_;rintro e w6 ⟨rfl,hb6⟩;rw [Hv.out];have B6:=af (hb.out.trans (hb6.mono hb.out.size));clear hb6;go_wp2_with fail;go_ret;exact ⟨ak HF.out.symm,dB.out.trans (B6.out.mono dB.out.size)⟩
   | true =>
    have HN:=af (show ∀ j,j<q+1→Kx.dC p j=true from fF hall.out hv);have Hv:=af hv;clear hv HV;go_wp2_with fail;refine HC.out.mono ?_;rintro e w6 ⟨rfl,hb6⟩;rw [Hv.out];have B6:=af (hb.out.trans (hb6.mono hb.out.size));clear hb6;go_wp2_with fail;go_roundw
    case rel=>exact ⟨q+1,by go_num,by omega,HN.out,B6.out⟩
    case measure=>simp [intOf];omega
  have HA:=af (show (List.range 16).all (Kx.dC p)=true by
   rw [List.all_eq_true];intro j hj;have hj2:j<16:=by simpa using hj
   have h6:=Ai.out;exact hall.out j (by omega))
  have zG:=af (show Kx.bI p=(Kx.bK p.hand 0 15&&Kx.bK p.limit 1 6&&decide ((Kx.countP p 1:Int)≤p.limit)) by
   rw [HV.out,V1.out,V2.out,V3.out,V4.out,V5.out,HA.out,show (p.pages.length==16)=true from by simpa using Ai.out];simp)
  have Hb0:=af hb.out;have ik:=af (show ∀ wz,Below wr.heap.size wr wz→SS wz p w.heap.size vm vi ve vc vs vl (.slice ap p.pages.length cp) from fun wz hz=>by
   obtain ⟨⟨n0,n1,n2,n3⟩,⟨n4,n5,n6,n7,n8⟩,_⟩:=jF.out.below (hb.out.trans (hz.mono hb.out.size));exact ⟨n0,n1,n2,n3,n4,n5,n6,n7,n8⟩)
  unfold SS at ik;clear HV
  cases h1:Kx.bK p.hand 0 15 with
  | false =>
   have HF:=af (show Kx.bI p=false by rw [zG.out,h1];rfl);have Hh:=af h1;clear h1 zG;go_wp2_with fail;refine wp_region_held_drew (S:=(fun wz=>wz.cell? ⟨w.heap.size,0,none⟩=some vm∧wz.cell? ⟨w.heap.size,1,none⟩=some vi∧wz.cell? ⟨w.heap.size,2,none⟩=some ve∧wz.cell? ⟨w.heap.size,3,none⟩=some vc∧wz.cell? ⟨w.heap.size,4,none⟩=some vs∧wz.cell? ⟨w.heap.size,5,none⟩=some vl∧wz.cell? ⟨w.heap.size,6,none⟩=some (.slice ap p.pages.length cp)∧wz.cell? ⟨w.heap.size,7,none⟩=some (.int .i64 p.hand)∧wz.cell? ⟨w.heap.size,8,none⟩=some (.int .i64 p.limit))) (by kernel_rfl) (by first | assumption | go_keep) (fun hHeld=>?_)
   refine tH 0 ?_;refine tH 1 ?_;refine rH 2 (fun K hK=>?_)
   (rw [if_pos (by rfl)];go_simp;go_at_call 99;refine (dJ _ _ _ _).mono ?_;rintro e w' ⟨rfl,rfl⟩;rw [Hh.out];go_wp2_with fail)
   refine hK.out _ _ ?_ (fun hHeld=>?_)
   ·first | assumption | go_keep
   clear hK K;refine nH ?_;refine tH 3 ?_;refine sH 4 ?_;refine sH 5 ?_;refine sH 6 ?_;refine tH 7 ?_;refine tH 8 ?_;refine sH 9 ?_;refine sH 10 ?_;refine sH 11 ?_;refine sH 12 ?_;refine sH 13 ?_;refine tH 14 ?_;refine tH 15 ?_;refine wpAnyH_done (by kernel_rfl) ?_ _;go_wp2_with fail;go_ret;exact ⟨ak HF.out.symm,dB.out.trans ((Below.bz Hb0.out).mono dB.out.size)⟩
  | true =>
   have Hh:=af h1
   cases h2:Kx.bK p.limit 1 6 with
   | false =>
    have HF:=af (show Kx.bI p=false by rw [zG.out,h1,h2];rfl);have Hl:=af h2;clear h1 h2 zG;go_wp2_with fail;refine wp_region_held_drew (S:=(fun wz=>wz.cell? ⟨w.heap.size,0,none⟩=some vm∧wz.cell? ⟨w.heap.size,1,none⟩=some vi∧wz.cell? ⟨w.heap.size,2,none⟩=some ve∧wz.cell? ⟨w.heap.size,3,none⟩=some vc∧wz.cell? ⟨w.heap.size,4,none⟩=some vs∧wz.cell? ⟨w.heap.size,5,none⟩=some vl∧wz.cell? ⟨w.heap.size,6,none⟩=some (.slice ap p.pages.length cp)∧wz.cell? ⟨w.heap.size,7,none⟩=some (.int .i64 p.hand)∧wz.cell? ⟨w.heap.size,8,none⟩=some (.int .i64 p.limit))) (by kernel_rfl) (by first | assumption | go_keep) (fun hHeld=>?_)
    refine tH 0 ?_;refine tH 1 ?_;refine rH 2 (fun K hK=>?_)
    (rw [if_pos (by rfl)];go_simp;go_at_call 99;refine (dJ _ _ _ _).mono ?_;rintro e w' ⟨rfl,rfl⟩;rw [Hh.out];go_wp2_with fail)
    refine hK.out _ _ ?_ (fun hHeld=>?_)
    ·first | assumption | go_keep
    clear hK K;refine nH ?_;refine tH 3 ?_;refine tH 4 ?_;refine tH 5 ?_;refine rH 6 (fun K hK=>?_)
    (rw [if_pos (by rfl)];go_simp;go_at_call 99;refine (dJ _ _ _ _).mono ?_;rintro e w' ⟨rfl,rfl⟩;rw [Hl.out];go_wp2_with fail)
    refine hK.out _ _ ?_ (fun hHeld=>?_)
    ·first | assumption | go_keep
    clear hK K;refine nH ?_;refine tH 7 ?_;refine tH 8 ?_;refine sH 9 ?_;refine sH 10 ?_;refine sH 11 ?_;refine sH 12 ?_;refine sH 13 ?_;refine tH 14 ?_;refine tH 15 ?_;refine wpAnyH_done (by kernel_rfl) ?_ _;go_wp2_with fail;go_ret;exact ⟨ak HF.out.symm,dB.out.trans ((Below.bz Hb0.out).mono dB.out.size)⟩
   | true =>
    have HF:=af (show Kx.bI p=decide ((Kx.countP p 1:Int)≤p.limit) by rw [zG.out,h1,h2];rfl);have Hl:=af h2;clear h1 h2 zG;go_wp2_with fail;refine wp_region_held_drew (S:=(fun wz=>wz.cell? ⟨w.heap.size,0,none⟩=some vm∧wz.cell? ⟨w.heap.size,1,none⟩=some vi∧wz.cell? ⟨w.heap.size,2,none⟩=some ve∧wz.cell? ⟨w.heap.size,3,none⟩=some vc∧wz.cell? ⟨w.heap.size,4,none⟩=some vs∧wz.cell? ⟨w.heap.size,5,none⟩=some vl∧wz.cell? ⟨w.heap.size,6,none⟩=some (.slice ap p.pages.length cp)∧wz.cell? ⟨w.heap.size,7,none⟩=some (.int .i64 p.hand)∧wz.cell? ⟨w.heap.size,8,none⟩=some (.int .i64 p.limit))) (by kernel_rfl) (by first | assumption | go_keep) (fun hHeld=>?_)
    refine tH 0 ?_;refine tH 1 ?_;refine rH 2 (fun K hK=>?_)
    (rw [if_pos (by rfl)];go_simp;go_at_call 99;refine (dJ _ _ _ _).mono ?_;rintro e w' ⟨rfl,rfl⟩;rw [Hh.out];go_wp2_with fail)
    refine hK.out _ _ ?_ (fun hHeld=>?_)
    ·first | assumption | go_keep
    clear hK K;refine nH ?_;refine tH 3 ?_;refine tH 4 ?_;refine tH 5 ?_;refine rH 6 (fun K hK=>?_)
    (rw [if_pos (by rfl)];go_simp;go_at_call 99;refine (dJ _ _ _ _).mono ?_;rintro e w' ⟨rfl,rfl⟩;rw [Hl.out];go_wp2_with fail)
    refine hK.out _ _ ?_ (fun hHeld=>?_)
    ·first | assumption | go_keep
    clear hK K;refine nH ?_;refine tH 7 ?_;refine tH 8 ?_;refine tH 9 ?_;refine tH 11 ?_;refine tH 12 ?_;refine rH 10 (fun K hK=>?_)
    (rw [if_pos (by rfl)];go_simp;go_at_call 277;refine (x_ p 1 vm vi ve vc vs vl _ p.hand p.limit wr.drew (RS.below HP.out.g (Below.bz Hb0.out))).mono ?_;rintro e w6 ⟨rfl,hb6⟩;have hb7:=Below.gG hb6;have hc7:=ik.out w6 hb7;go_wp2_with fail)
    refine hK.out _ _ ?_ (fun hHeld=>?_)
    ·first | assumption | go_keep
    clear hK K;refine nH ?_;refine tH 13 ?_;refine tH 14 ?_;refine tH 15 ?_;refine wpAnyH_done (by kernel_rfl) ?_ _;have ZH:=af (Hb0.out.trans (hb7.mono Hb0.out.size));go_wp2_with fail;go_ret;exact ⟨ak HF.out.symm,dB.out.trans (ZH.out.mono dB.out.size)⟩
def qx (k:Kx.Kernel) (env:Int):List Nat:=if !Kx.az k||!Kx.bK env 0 2 then [] else Kx.reach k.mem (Kx.au k.ah env.toNat).root
end Go.Proofs.YtliebkfligagnaaGreatDoor
