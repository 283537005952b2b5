/- KW19, KW20, KW21, KW22, joined. -/
import Derived.Test.YtenebmeaoidnoaaGreatDoorKW18
import Derived.Test.YtenebmeaoidnoaaGreatDoorKR
import Derived.Test.YtenebmeaoidnoaaGreatDoorKY
namespace Go.Proofs.YtenebmeaoidnoaaGreatDoor
open Go.RowKit
theorem pageOk_eq (p:Kx.Pager) (n:Nat):Kx.pageOk p n=(if (Kx.pageAt p.pages n).wh=0 then (Kx.pageAt p.pages n)==Kx.Page.zero&&Kx.word p.k.mem ((p.low.getD (n / 4) 0).toNat) (n % 4)==0
  else if (Kx.pageAt p.pages n).wh=1 then Kx.inR (Kx.pageAt p.pages n).at_ 0 11&&Kx.word p.k.mem ((p.low.getD (n / 4) 0).toNat) (n % 4)==Kx.put (Kx.pageAt p.pages n).at_.toNat true&&decide ((Kx.inf p.k.infos (Kx.pageAt p.pages n).at_.toNat).guard=Kx.sA)&&(Kx.inf p.k.infos (Kx.pageAt p.pages n).at_.toNat).refs==1
  else if (Kx.pageAt p.pages n).wh=2 then Kx.inR (Kx.pageAt p.pages n).at_ 0 15&&!(Kx.row p.swap (Kx.pageAt p.pages n).at_.toNat).isEmpty&&!(Kx.pageAt p.pages n).used&&Kx.word p.k.mem ((p.low.getD (n / 4) 0).toNat) (n % 4)==0
  else false):=rfl
set_option maxHeartbeats 4000000 in
theorem l32Page_c (p:Kx.Pager) (n:Nat) (vm vi ve vc vs vl vp:Value) (hand limit:Int) (w:World) (h:RP w vm vi ve vc vs vl vp p) (hmo:Kx.memOk p.k.mem=true) (hio:p.k.infos.length=12) (hpl:p.pages.length=16) (hll:p.low.length=4) (hsw:Kx.swapOk p.swap=true)
    (hlo:∀ i,i<4→0≤p.low.getD i 0∧p.low.getD i 0≤11) (hn:n<16) :
    Calls Tryz.prog 170 #[pagerV vm vi ve vc vs vl vp hand limit,.int .i64 n] w fun e w'=>e=.returned (.bool (Kx.pageOk p n))∧Below w.heap.size w w':=by
  obtain ⟨w0,hw0⟩:∃ w0,w.alloc (.cells #[vm,vi,ve,vc,vs,vl,vp,.int .i64 hand,.int .i64 limit] 103)=w0:=⟨_,rfl⟩;have Hw0:=hI_ (show Below w.heap.size w w0 from hw0 ▸ (Below.refl w.heap.size w).alloc nR_ _);have Hbx:=hI_ (show BoxP w0 w.heap.size vm vi ve vc vs vl vp hand limit from hw0 ▸ BoxP.new w vm vi ve vc vs vl vp hand limit _);have HP:=hI_ (h.below Hw0.out);have Hok:=hI_ (pageOk_eq p n);obtain ⟨q,hq⟩:∃ q,n / 4=q:=⟨_,rfl⟩;obtain ⟨r,hr⟩:∃ r,n % 4=r:=⟨_,rfl⟩;have eq:(n:Int) / 4=(q:Int):=by omega
  have er:(n:Int) % 4=(r:Int):=by omega
  have hq4:(q:Int)<4:=by omega
  have et:(n:Int).tmod 4=(r:Int):=by rw [Int.tmod_eq_emod_of_nonneg (by omega)];exact er
  have hr0:(0:Int)≤(r:Int):=by omega
  have hqw:IntKind.i64.wrap (q:Int)=(q:Int):=IntWalk.i64_in _ (by omega);have hq0:(0:Int)≤(q:Int):=by omega
  have hr4:(r:Int)<4:=by omega
  have hnI:(n:Int)<16:=by omega
  rw [hq,hr] at Hok;obtain ⟨bp,op,cp,rfl,hbp,g0,g1,g2⟩:=RPage.at HP.out.g (k:=n) (by omega);obtain ⟨bl,ol,cl,rfl,hbl,hcl⟩:=HP.out.l.at (k:=q) (by omega);have hget:p.low[q]'(by omega)=p.low.getD q 0:=by simp [show q<p.low.length by omega]
  rw [hget] at hcl;obtain ⟨hf0,hf11⟩:=hlo q (by omega);generalize p.low.getD q 0=f at hcl hf0 hf11 Hok;obtain ⟨f0,rfl⟩:=Int.eq_ofNat_of_zero_le hf0;rw [Int.toNat_natCast] at Hok;have hf12:f0<12:=by omega
  have hfI:(f0:Int)<12:=by omega
  have Hio:=hI_ hio;have Hmo:=hI_ hmo;have Hsw:=hI_ hsw;have k6:=Hbx.out.2.1.2.2.1;obtain ⟨ai,ci,rfl,_,_⟩:=RS.val HP.out.k.i;obtain ⟨pg,hx⟩:∃ pg,Kx.pageAt p.pages n=pg:=⟨_,rfl⟩;rw [hx] at g0 g1 g2 Hok;clear hx hget hf0 hf11 hlo;obtain ⟨x,y,z⟩:=pg;dsimp only at g0 g1 g2 Hok;obtain ⟨W1,hW1⟩:∃ W1,w0.alloc (.cells #[.int .i64 x,.int .i64 y,.bool z] 169)=W1:=⟨_,rfl⟩;have B1:=hI_ (show Below w0.heap.size w0 W1 from hW1 ▸ bL_);obtain ⟨c0,c1,c2⟩:=(show W1.cell? ⟨w0.heap.size,0,none⟩=some (.int .i64 x)∧W1.cell? ⟨w0.heap.size,1,none⟩=some (.int .i64 y)∧W1.cell? ⟨w0.heap.size,2,none⟩=some (.bool z) from hW1 ▸ Box3.new w0 _ _ _ 169);have HP1:=hI_ (HP.out.below B1.out);have HS1:=hI_ (show w0.heap.size<W1.heap.size from hW1 ▸ by simp);obtain ⟨bm,om,cm,bq,oq,cq,rfl,n1,n2,_,_⟩:=HP1.out.k.m.word Hmo.out (f:=f0) (a:=r) hf12 (by omega);generalize Kx.word p.k.mem f0 r=wd at n2 Hok
  obtain ⟨⟨m0,m1,m2,m3⟩,⟨m4,m5,m6,m7,m8⟩,_⟩:=Hbx.out.below B1.out;have hcl1:W1.cell? ⟨bl,ol+q,none⟩=some (.int .i64 f0):=(B1.out.cell (p:=⟨bl,ol+q,none⟩) hbl).trans hcl;have HB:=hI_ (Below.drewB (Hw0.out.trans (B1.out.mono Hw0.out.size)));rw [hpl] at m6 k6 hw0 ⊢;rw [hll] at m5 hw0 ⊢;clear h hio hmo hsw hbp hbl hq hr hcl;clear hpl hll;unfold pagerV;go_enter Tryz.func170,Tryz.ntmps170;go_wp2_with fail;clear hW1 hw0;refine wp_region_held_drew (S:=(fun wz=>wz.cell? ⟨w.heap.size,0,none⟩=some (.slice (some ⟨bm,om,none⟩) 12 cm)∧wz.cell? ⟨w.heap.size,5,none⟩=some (.slice (some ⟨bl,ol,none⟩) 4 cl)∧wz.cell? ⟨bl,ol+q,none⟩=some (.int .i64 f0)∧wz.cell? ⟨bm,om+f0,none⟩=some (.slice (some ⟨bq,oq,none⟩) 4 cq)∧wz.cell? ⟨bq,oq+r,none⟩=some (.int .i64 wd))) (by kernel_rfl) (by first | assumption | go_keep) (fun hHeld=>?_)
  refine tH 0 ?_;refine tH 1 ?_;refine tH 2 ?_;refine tH 3 ?_;refine tH 4 ?_;refine tH 5 ?_;refine tH 6 ?_;refine tH 7 ?_;refine tH 8 ?_;refine tH 9 ?_;refine tH 10 ?_;refine tH 11 ?_;refine tH 12 ?_;refine tH 13 ?_;refine tH 14 ?_;refine tH 15 ?_;refine wpAnyH_done (by kernel_rfl) ?_ _;clear eq er hqw et
  by_cases h0:x=0
  · subst h0;have Hok:=hI_ (show Kx.pageOk p n=(((⟨0,y,z⟩:Kx.Page)==Kx.Page.zero)&&wd==0) from Hok.out)
    by_cases hy:y=0
    case neg =>
      have HF:=hI_ (show Kx.pageOk p n=false by rw [Hok.out,show ((⟨0,y,z⟩:Kx.Page)==Kx.Page.zero)=false from by simp [Kx.Page.zero,hy],Bool.false_and]);have hyb:(y==0)=false:=by simpa using hy
      clear Hok hy;go_wp2_with fail;go_ret;exact ⟨ret_bool HF.out.symm,HB.out⟩
    subst hy
    cases z
    case true =>
      have HF:=hI_ (show Kx.pageOk p n=false by rw [Hok.out];rfl);clear Hok;go_wp2_with fail;go_ret;exact ⟨ret_bool HF.out.symm,HB.out⟩
    have HF:=hI_ (show Kx.pageOk p n=(wd==0) by rw [Hok.out];rfl);clear Hok;go_wp2_with fail;go_ret;exact ⟨ret_bool HF.out.symm,HB.out⟩
  have hxa:(x==0)=false:=by simpa using h0
  by_cases h1:x=1
  · subst h1;have Hok:=hI_ (show Kx.pageOk p n=(Kx.inR y 0 11&&wd==Kx.put y.toNat true&&decide ((Kx.inf p.k.infos y.toNat).guard=Kx.sA)&&(Kx.inf p.k.infos y.toNat).refs==1) from Hok.out);go_wp2_with fail;refine (l1Frame_c _ _).mono ?_;rintro e w' ⟨rfl,rfl⟩
    cases hin:Kx.inR y 0 11 with
    | false =>
      have HF:=hI_ (show Kx.pageOk p n=false by rw [Hok.out,hin];rfl);clear hin Hok h0 hxa;go_wp2_with fail;go_ret;exact ⟨ret_bool HF.out.symm,HB.out⟩
    | true =>
      obtain ⟨y0,y11⟩:=Kx.inR_true.1 hin;obtain ⟨g,rfl⟩:=Int.eq_ofNat_of_zero_le y0;rw [hin,Bool.true_and,Int.toNat_natCast] at Hok;have hg12:g<12:=by omega
      obtain ⟨bi,oi,ci',ev,_,j0,j1,j2⟩:=RInfo.at HP1.out.k.i (k:=g) (by rw [Hio.out];exact hg12);simp only [Value.slice.injEq] at ev;obtain ⟨rfl,_,rfl⟩:=ev;have hgI:(g:Int)<(p.k.infos.length:Int):=by rw [Hio.out];omega
      clear hin y0 h0 hxa;generalize (Kx.inf p.k.infos g).guard=gf at j1 Hok;generalize (Kx.inf p.k.infos g).refs=rf at j2 Hok;go_wp2_with fail;refine (l1Put_c g true _ hg12).mono ?_;rintro e w' ⟨rfl,rfl⟩;generalize Kx.put g true=pw at Hok ⊢
      by_cases hw:wd=pw
      case neg =>
        have hwb:(wd==pw)=false:=by simpa using hw
        have HF:=hI_ (show Kx.pageOk p n=false by rw [Hok.out,hwb];rfl);clear Hok hw;go_wp2_with fail;go_ret;exact ⟨ret_bool HF.out.symm,HB.out⟩
      subst hw;rw [beq_self_eq_true,Bool.true_and] at Hok
      by_cases hg:gf=Kx.sA
      case neg =>
        have hgt:=toList_inj hg;have hgd:decide (ByteArray.toList gf=[97])=false:=by simpa using hgt
        have hge:(ByteArray.toList gf==[97])=false:=by simpa using hgt
        have HF:=hI_ (show Kx.pageOk p n=false by rw [Hok.out,show decide (gf=Kx.sA)=false from by simpa using hg];rfl);clear Hok hg;go_wp2_with fail;go_ret;exact ⟨ret_bool HF.out.symm,HB.out⟩
      have HF:=hI_ (show Kx.pageOk p n=(rf==1) by rw [Hok.out,show decide (gf=Kx.sA)=true from by simpa using hg];simp);unfold Kx.sA at hg;subst hg;clear Hok;go_wp2_with fail;go_ret;exact ⟨ret_bool HF.out.symm,HB.out⟩
  have hxb:(x==1)=false:=by simpa using h1
  by_cases h2:x=2
  · subst h2;have Hok:=hI_ (show Kx.pageOk p n=(Kx.inR y 0 15&&!(Kx.row p.swap y.toNat).isEmpty&&!z&&wd==0) from Hok.out);have HG:=hI_ (show getOk p.swap y=(Kx.inR y 0 15&&!(Kx.row p.swap y.toNat).isEmpty) by unfold getOk;rw [Hsw.out,Bool.true_and]);clear h0 h1 hxa hxb;go_wp2_with fail;refine (SwapGet_c p.swap y _ W1.drew (show RM W1.drew _ _ from HP1.out.s)).mono ?_;rintro e w3 ⟨u3,rfl,_,hb3⟩;have d2:w3.cell? ⟨w0.heap.size,2,none⟩=some (.bool z):=((Below.undrew hb3).cell (p:=⟨w0.heap.size,2,none⟩) HS1.out).trans c2;have HB3:=hI_ (HB.out.trans (hb3.mono HB.out.size));clear hb3 c0 c1 c2
    cases hgo:getOk p.swap y with
    | false =>
      have HF:=hI_ (show Kx.pageOk p n=false by rw [Hok.out,←HG.out,hgo];rfl);clear Hok HG hgo;go_wp2_with fail;go_ret;exact ⟨ret_bool HF.out.symm,HB3.out⟩
    | true =>
      have Hok:=hI_ (show Kx.pageOk p n=(!z&&wd==0) by rw [Hok.out,←HG.out,hgo];simp);clear HG hgo
      cases z
      · have HF:=hI_ (show Kx.pageOk p n=(wd==0) by rw [Hok.out];rfl);clear Hok;go_wp2_with fail;go_ret;exact ⟨ret_bool HF.out.symm,HB3.out⟩
      · have HF:=hI_ (show Kx.pageOk p n=false by rw [Hok.out];rfl);clear Hok;go_wp2_with fail;go_ret;exact ⟨ret_bool HF.out.symm,HB3.out⟩
  have hxc:(x==2)=false:=by simpa using h2
  have HF:=hI_ (show Kx.pageOk p n=false by rw [Hok.out,if_neg h0,if_neg h1,if_neg h2]);clear Hok h0 h1 h2;go_wp2_with fail;go_ret;exact ⟨ret_bool HF.out.symm,HB.out⟩
def SS (wz:World) (p:Kx.Pager) (b:Nat) (vm vi ve vc vs vl vp:Value):Prop:=wz.cell? ⟨b,0,none⟩=some vm∧wz.cell? ⟨b,1,none⟩=some vi∧wz.cell? ⟨b,2,none⟩=some ve∧wz.cell? ⟨b,3,none⟩=some vc∧wz.cell? ⟨b,4,none⟩=some vs∧wz.cell? ⟨b,5,none⟩=some vl∧wz.cell? ⟨b,6,none⟩=some vp∧wz.cell? ⟨b,7,none⟩=some (.int .i64 p.hand)∧wz.cell? ⟨b,8,none⟩=some (.int .i64 p.limit)
set_option maxHeartbeats 4000000 in
theorem specPagerValid_c (p:Kx.Pager) (vm vi ve vc vs vl vp:Value) (w:World) (h:RP w vm vi ve vc vs vl vp p) (hs:SaneK p.k) :
    Calls Tryz.prog 144 #[pagerV vm vi ve vc vs vl vp p.hand p.limit] w fun e w'=>e=.returned (.bool (Kx.pagerOk p))∧Below w.heap.size w w':=by
  obtain ⟨w0,hw0⟩:∃ w0,w.alloc (.cells #[vm,vi,ve,vc,vs,vl,vp,.int .i64 p.hand,.int .i64 p.limit] 103)=w0:=⟨_,rfl⟩;have Hw0:=hI_ (show Below w.heap.size w w0 from hw0 ▸ (Below.refl w.heap.size w).alloc nR_ _);have Hbx:=hI_ (show BoxP w0 w.heap.size vm vi ve vc vs vl vp p.hand p.limit from hw0 ▸ BoxP.new w vm vi ve vc vs vl vp p.hand p.limit _);have HP:=hI_ (h.below Hw0.out);have Hs:=hI_ hs;obtain ⟨ap,cp,rfl,_,_⟩:=RS.val h.g;have hpl:=h.g.1;have HV:=hI_ (show Kx.pagerOk p=(Kx.kernelOk p.k&&Kx.swapOk p.swap&&Kx.alone p.k&&Kx.tablesP p&&p.pages.length==16&&Kx.slotsOk p&&(List.range 16).all (Kx.pageOk p)&&Kx.inR p.hand 0 15&&Kx.inR p.limit 1 6&&decide ((Kx.countP p 1:Int)≤p.limit)) from rfl);obtain ⟨⟨m0,m1,m2,m3⟩,⟨m4,m5,m6,m7,m8⟩,_⟩:=Hbx.out;clear h hs;unfold pagerV;go_enter Tryz.func144,Tryz.ntmps144;go_wp2_with fail;clear hw0
  refine (specKernelValid_c p.k vm vi ve vc _ HP.out.k Hs.out).mono ?_;rintro e w1 ⟨rfl,hb1⟩;have B1:=hI_ (hb1);clear hb1 m0 m1 m2 m3 m4 m5 m6 m7 m8;obtain ⟨⟨m0,m1,m2,m3⟩,⟨m4,m5,m6,m7,m8⟩,_⟩:=Hbx.out.below B1.out
  cases hv:Kx.kernelOk p.k
  · have HF:=hI_ (show Kx.pagerOk p=false by rw [HV.out,hv];simp);clear hv HV;go_wp2_with fail;go_ret;exact ⟨ret_bool HF.out.symm,Hw0.out.trans (B1.out.mono Hw0.out.size)⟩
  have V1:=hI_ hv;clear hv;have OK:=hI_ (Kx.ok_iff.1 V1.out);have Hm:=hI_ (show Kx.memOk p.k.mem=true from by have:=V1.out;unfold Kx.kernelOk at this;simp only [Bool.and_eq_true] at this;exact this.1.1.1.1.1.1);have Hi:=hI_ (show p.k.infos.length=12 from by
    have:=V1.out;unfold Kx.kernelOk at this;simp only [Bool.and_eq_true] at this
    have:=this.1.1.1.1.1.2;unfold Kx.infosOk at this;simp only [Bool.and_eq_true] at this;simpa using this.2)
  have HEo:=hI_ (show Kx.envsOk p.k=true from by have:=V1.out;unfold Kx.kernelOk at this;simp only [Bool.and_eq_true] at this;exact this.1.1.1.2);have He:=hI_ (show p.k.envs.length=3 from by have:=HEo.out;unfold Kx.envsOk at this;simp only [Bool.and_eq_true] at this;simpa using this.2);have Hro:=hI_ (show (Kx.envAt p.k.envs 0).root≤11 from by
    have:=HEo.out
    unfold Kx.envsOk at this;rw [eOk_all] at this;simp only [Bool.and_eq_true,List.all_eq_true] at this;have h2:=this.1 0 (by rw [He.out];simp);unfold eOk Kx.envOk at h2;simp only [Bool.and_eq_true] at h2;exact (Kx.inR_true.1 h2.1.1.2).2)
  go_wp2_with fail;refine (specSwapValid_c p.swap _ _ (HP.out.s.below B1.out)).mono ?_;rintro e w2 ⟨rfl,rfl⟩
  cases hv:Kx.swapOk p.swap
  · have HF:=hI_ (show Kx.pagerOk p=false by rw [HV.out,hv];simp);clear hv HV;go_wp2_with fail;go_ret;exact ⟨ret_bool HF.out.symm,Hw0.out.trans (B1.out.mono Hw0.out.size)⟩
  have V2:=hI_ hv;clear hv;go_wp2_with fail;refine (l32Alone_c p.k vm vi ve vc _ (HP.out.k.below B1.out) He.out).mono ?_;rintro e w3 ⟨rfl,hb3⟩;have B3:=hI_ (B1.out.trans (hb3.mono B1.out.size));clear hb3 m0 m1 m2 m3 m4 m5 m6 m7 m8;obtain ⟨⟨m0,m1,m2,m3⟩,⟨m4,m5,m6,m7,m8⟩,_⟩:=Hbx.out.below B3.out
  cases hv:Kx.alone p.k
  · have HF:=hI_ (show Kx.pagerOk p=false by rw [HV.out,hv];simp);clear hv HV;go_wp2_with fail;go_ret;exact ⟨ret_bool HF.out.symm,Hw0.out.trans (B3.out.mono Hw0.out.size)⟩
  have V3:=hI_ hv;clear hv;go_wp2_with fail;refine (l32Tables_c p vm vi ve vc vs vl _ p.hand p.limit _ (HP.out.below B3.out) Hm.out Hi.out He.out Hro.out).mono ?_;rintro e w4 ⟨rfl,hb4⟩;have B4:=hI_ (B3.out.trans (hb4.mono B3.out.size));clear hb4 m0 m1 m2 m3 m4 m5 m6 m7 m8;obtain ⟨⟨m0,m1,m2,m3⟩,⟨m4,m5,m6,m7,m8⟩,_⟩:=Hbx.out.below B4.out
  cases hv:Kx.tablesP p
  · have HF:=hI_ (show Kx.pagerOk p=false by rw [HV.out,hv];simp);clear hv HV;go_wp2_with fail;go_ret;exact ⟨ret_bool HF.out.symm,Hw0.out.trans (B4.out.mono Hw0.out.size)⟩
  have V4:=hI_ hv;clear hv;have Hlow:=hI_ (show p.low.length=4∧∀ i,i<4→0≤p.low.getD i 0∧p.low.getD i 0≤11 from by
    have:=V4.out
    unfold Kx.tablesP at this;simp only [Bool.and_eq_true,List.all_eq_true] at this;refine ⟨by simpa using this.1.1.1.2,fun i hi=>?_⟩
    have h2:=this.2 i (by simpa using hi);rw [lowOk_eq] at h2;simp only [Bool.and_eq_true] at h2;exact Kx.inR_true.1 h2.1.1.1)
  by_cases h16:p.pages.length=16
  case neg =>
    have HF:=hI_ (show Kx.pagerOk p=false by rw [HV.out,show (p.pages.length==16)=false from by simpa using h16];simp);have hlb:((p.pages.length:Int) != 16)=true:=by simp;omega
    have hlc:((p.pages.length:Int)==16)=false:=by simp;omega
    clear HV h16;go_wp2_with fail;go_ret;exact ⟨ret_bool HF.out.symm,Hw0.out.trans (B4.out.mono Hw0.out.size)⟩
  have H16:=hI_ h16;have hlb:((p.pages.length:Int) != 16)=false:=by simp;omega
  have hlc:((p.pages.length:Int)==16)=true:=by simp;omega
  clear h16;go_wp2_with fail;refine (l32Slots_c p vm vi ve vc vs vl _ p.hand p.limit _ (RS.below HP.out.g B4.out) (HP.out.s.below B4.out)).mono ?_;rintro e w5 ⟨rfl,hb5⟩;have B5:=hI_ (B4.out.trans (hb5.mono B4.out.size));clear hb5 m0 m1 m2 m3 m4 m5 m6 m7 m8;obtain ⟨⟨m0,m1,m2,m3⟩,⟨m4,m5,m6,m7,m8⟩,_⟩:=Hbx.out.below B5.out
  cases hv:Kx.slotsOk p
  · have HF:=hI_ (show Kx.pagerOk p=false by rw [HV.out,hv];simp);clear hv HV;go_wp2_with fail;go_ret;exact ⟨ret_bool HF.out.symm,Hw0.out.trans (B5.out.mono Hw0.out.size)⟩
  have V5:=hI_ hv;clear hv;go_wp2_with fail;go_loopw [3] (fun i wr=>∃ q:Nat,i=.int .i64 q∧q≤p.pages.length∧Hid (∀ j,j<q→Kx.pageOk p j=true)∧Hid (Below w0.heap.size w0 wr)) (fun i _=>p.pages.length - (intOf i).toNat)
  case atStart=>exact ⟨0,rfl,Nat.zero_le _,fun j hj=>absurd hj (Nat.not_lt_zero _),B5.out⟩
  case round =>
    clear m0 m1 m2 m3 m4 m5 m6 m7 m8;obtain ⟨q,rfl,hq,hall,hb⟩:=hrel;obtain ⟨⟨m0,m1,m2,m3⟩,⟨m4,m5,m6,m7,m8⟩,hbl⟩:=Hbx.out.below hb.out
    by_cases hlt:q<p.pages.length
    · have hlI:(q:Int)<(p.pages.length:Int):=by omega
      have HC:=hI_ (l32Page_c p q vm vi ve vc vs vl _ p.hand p.limit wr (HP.out.below hb.out) Hm.out Hi.out H16.out Hlow.out.1 V2.out Hlow.out.2 (by rw [←H16.out];exact hlt))
      cases hv:Kx.pageOk p q with
      | false =>
        have HF:=hI_ (show Kx.pagerOk p=false by
          rw [HV.out,show (List.range 16).all (Kx.pageOk p)=false from by
            rw [List.all_eq_false];exact ⟨q,by rw [←H16.out];simpa using hlt,by rw [hv];simp⟩];simp)
        have Hv:=hI_ hv;clear hv HV;go_wp2_with fail;refine HC.out.mono ?_;rintro e w6 ⟨rfl,hb6⟩;rw [Hv.out];have B6:=hI_ (hb.out.trans (hb6.mono hb.out.size));clear hb6;go_wp2_with fail;go_ret;exact ⟨ret_bool HF.out.symm,Hw0.out.trans (B6.out.mono Hw0.out.size)⟩
      | true =>
        have HN:=hI_ (show ∀ j,j<q+1→Kx.pageOk p j=true from scan_step hall.out hv);have Hv:=hI_ hv;clear hv HV;go_wp2_with fail;refine HC.out.mono ?_;rintro e w6 ⟨rfl,hb6⟩;rw [Hv.out];have B6:=hI_ (hb.out.trans (hb6.mono hb.out.size));clear hb6;go_wp2_with fail;go_roundw
        case rel=>exact ⟨q+1,by go_num,by omega,HN.out,B6.out⟩
        case measure=>simp [intOf];omega
    · have HA:=hI_ (show (List.range 16).all (Kx.pageOk p)=true by
        rw [List.all_eq_true];intro j hj;have hj2:j<16:=by simpa using hj
        have h6:=H16.out;exact hall.out j (by omega))
      have HV2:=hI_ (show Kx.pagerOk p=(Kx.inR p.hand 0 15&&Kx.inR p.limit 1 6&&decide ((Kx.countP p 1:Int)≤p.limit)) by
        rw [HV.out,V1.out,V2.out,V3.out,V4.out,V5.out,HA.out,show (p.pages.length==16)=true from by simpa using H16.out];simp)
      have Hb0:=hI_ hb.out;have Hcl:=hI_ (show ∀ wz,Below wr.heap.size wr wz→SS wz p w.heap.size vm vi ve vc vs vl (.slice ap p.pages.length cp) from fun wz hz=>by
        obtain ⟨⟨n0,n1,n2,n3⟩,⟨n4,n5,n6,n7,n8⟩,_⟩:=Hbx.out.below (hb.out.trans (hz.mono hb.out.size));exact ⟨n0,n1,n2,n3,n4,n5,n6,n7,n8⟩)
      unfold SS at Hcl;clear HV
      cases h1:Kx.inR p.hand 0 15 with
      | false =>
        have HF:=hI_ (show Kx.pagerOk p=false by rw [HV2.out,h1];rfl);have Hh:=hI_ h1;clear h1 HV2;go_wp2_with fail;refine wp_region_held_drew (S:=(fun wz=>wz.cell? ⟨w.heap.size,0,none⟩=some vm∧wz.cell? ⟨w.heap.size,1,none⟩=some vi∧wz.cell? ⟨w.heap.size,2,none⟩=some ve∧wz.cell? ⟨w.heap.size,3,none⟩=some vc∧wz.cell? ⟨w.heap.size,4,none⟩=some vs∧wz.cell? ⟨w.heap.size,5,none⟩=some vl∧wz.cell? ⟨w.heap.size,6,none⟩=some (.slice ap p.pages.length cp)∧wz.cell? ⟨w.heap.size,7,none⟩=some (.int .i64 p.hand)∧wz.cell? ⟨w.heap.size,8,none⟩=some (.int .i64 p.limit))) (by kernel_rfl) (by first | assumption | go_keep) (fun hHeld=>?_)
        refine tH 0 ?_;refine tH 1 ?_;refine rH 2 (fun K hK=>?_)
        (rw [if_pos (by rfl)];go_simp;go_at_call 90;refine (l6InK_c _ _ _ _).mono ?_;rintro e w' ⟨rfl,rfl⟩;rw [Hh.out];go_wp2_with fail)
        refine hK.out _ _ ?_ (fun hHeld=>?_)
        · first | assumption | go_keep
        clear hK K;refine nH ?_;refine tH 3 ?_;refine sH 4 ?_;refine sH 5 ?_;refine sH 6 ?_;refine tH 7 ?_;refine tH 8 ?_;refine sH 9 ?_;refine sH 10 ?_;refine sH 11 ?_;refine sH 12 ?_;refine sH 13 ?_;refine tH 14 ?_;refine tH 15 ?_;refine wpAnyH_done (by kernel_rfl) ?_ _;go_wp2_with fail;go_ret;exact ⟨ret_bool HF.out.symm,Hw0.out.trans ((Below.drewB Hb0.out).mono Hw0.out.size)⟩
      | true =>
        have Hh:=hI_ h1
        cases h2:Kx.inR p.limit 1 6 with
        | false =>
          have HF:=hI_ (show Kx.pagerOk p=false by rw [HV2.out,h1,h2];rfl);have Hl:=hI_ h2;clear h1 h2 HV2;go_wp2_with fail;refine wp_region_held_drew (S:=(fun wz=>wz.cell? ⟨w.heap.size,0,none⟩=some vm∧wz.cell? ⟨w.heap.size,1,none⟩=some vi∧wz.cell? ⟨w.heap.size,2,none⟩=some ve∧wz.cell? ⟨w.heap.size,3,none⟩=some vc∧wz.cell? ⟨w.heap.size,4,none⟩=some vs∧wz.cell? ⟨w.heap.size,5,none⟩=some vl∧wz.cell? ⟨w.heap.size,6,none⟩=some (.slice ap p.pages.length cp)∧wz.cell? ⟨w.heap.size,7,none⟩=some (.int .i64 p.hand)∧wz.cell? ⟨w.heap.size,8,none⟩=some (.int .i64 p.limit))) (by kernel_rfl) (by first | assumption | go_keep) (fun hHeld=>?_)
          refine tH 0 ?_;refine tH 1 ?_;refine rH 2 (fun K hK=>?_)
          (rw [if_pos (by rfl)];go_simp;go_at_call 90;refine (l6InK_c _ _ _ _).mono ?_;rintro e w' ⟨rfl,rfl⟩;rw [Hh.out];go_wp2_with fail)
          refine hK.out _ _ ?_ (fun hHeld=>?_)
          · first | assumption | go_keep
          clear hK K;refine nH ?_;refine tH 3 ?_;refine tH 4 ?_;refine tH 5 ?_;refine rH 6 (fun K hK=>?_)
          (rw [if_pos (by rfl)];go_simp;go_at_call 90;refine (l6InK_c _ _ _ _).mono ?_;rintro e w' ⟨rfl,rfl⟩;rw [Hl.out];go_wp2_with fail)
          refine hK.out _ _ ?_ (fun hHeld=>?_)
          · first | assumption | go_keep
          clear hK K;refine nH ?_;refine tH 7 ?_;refine tH 8 ?_;refine sH 9 ?_;refine sH 10 ?_;refine sH 11 ?_;refine sH 12 ?_;refine sH 13 ?_;refine tH 14 ?_;refine tH 15 ?_;refine wpAnyH_done (by kernel_rfl) ?_ _;go_wp2_with fail;go_ret;exact ⟨ret_bool HF.out.symm,Hw0.out.trans ((Below.drewB Hb0.out).mono Hw0.out.size)⟩
        | true =>
          have HF:=hI_ (show Kx.pagerOk p=decide ((Kx.countP p 1:Int)≤p.limit) by rw [HV2.out,h1,h2];rfl);have Hl:=hI_ h2;clear h1 h2 HV2;go_wp2_with fail;refine wp_region_held_drew (S:=(fun wz=>wz.cell? ⟨w.heap.size,0,none⟩=some vm∧wz.cell? ⟨w.heap.size,1,none⟩=some vi∧wz.cell? ⟨w.heap.size,2,none⟩=some ve∧wz.cell? ⟨w.heap.size,3,none⟩=some vc∧wz.cell? ⟨w.heap.size,4,none⟩=some vs∧wz.cell? ⟨w.heap.size,5,none⟩=some vl∧wz.cell? ⟨w.heap.size,6,none⟩=some (.slice ap p.pages.length cp)∧wz.cell? ⟨w.heap.size,7,none⟩=some (.int .i64 p.hand)∧wz.cell? ⟨w.heap.size,8,none⟩=some (.int .i64 p.limit))) (by kernel_rfl) (by first | assumption | go_keep) (fun hHeld=>?_)
          refine tH 0 ?_;refine tH 1 ?_;refine rH 2 (fun K hK=>?_)
          (rw [if_pos (by rfl)];go_simp;go_at_call 90;refine (l6InK_c _ _ _ _).mono ?_;rintro e w' ⟨rfl,rfl⟩;rw [Hh.out];go_wp2_with fail)
          refine hK.out _ _ ?_ (fun hHeld=>?_)
          · first | assumption | go_keep
          clear hK K;refine nH ?_;refine tH 3 ?_;refine tH 4 ?_;refine tH 5 ?_;refine rH 6 (fun K hK=>?_)
          (rw [if_pos (by rfl)];go_simp;go_at_call 90;refine (l6InK_c _ _ _ _).mono ?_;rintro e w' ⟨rfl,rfl⟩;rw [Hl.out];go_wp2_with fail)
          refine hK.out _ _ ?_ (fun hHeld=>?_)
          · first | assumption | go_keep
          clear hK K;refine nH ?_;refine tH 7 ?_;refine tH 8 ?_;refine tH 9 ?_;refine tH 11 ?_;refine tH 12 ?_;refine rH 10 (fun K hK=>?_)
          (rw [if_pos (by rfl)];go_simp;go_at_call 171;refine (l32Count_c p 1 vm vi ve vc vs vl _ p.hand p.limit wr.drew (RS.below HP.out.g (Below.drewB Hb0.out))).mono ?_;rintro e w6 ⟨rfl,hb6⟩;have hb7:=Below.undrew hb6;have hc7:=Hcl.out w6 hb7;go_wp2_with fail)
          refine hK.out _ _ ?_ (fun hHeld=>?_)
          · first | assumption | go_keep
          clear hK K;refine nH ?_;refine tH 13 ?_;refine tH 14 ?_;refine tH 15 ?_;refine wpAnyH_done (by kernel_rfl) ?_ _;have Hb7:=hI_ (Hb0.out.trans (hb7.mono Hb0.out.size));go_wp2_with fail;go_ret;exact ⟨ret_bool HF.out.symm,Hw0.out.trans (Hb7.out.mono Hw0.out.size)⟩
def kreach (k:Kx.Kernel) (env:Int):List Nat:=if !Kx.kernelOk k||!Kx.inR env 0 2 then [] else Kx.reach k.mem (Kx.envAt k.envs env.toNat).root
end Go.Proofs.YtenebmeaoidnoaaGreatDoor
