/- The law FnKernelRefs: uses are counted. (printed by kl.py) -/
import Derived.Test.YtenebmeaoidnoaaGreatDoorKS
import Derived.Test.YtenebmeaoidnoaaGreatDoorKR
import Derived.Test.YtenebmeaoidnoaaGreatDoorKY
namespace Go.Proofs.YtenebmeaoidnoaaGreatDoor
open Go.RowKit
def bump (xs:List Int) (r:Int):List Int:=if 0≤r then xs.set r.toNat (xs.getD r.toNat 0+1) else xs
def bumps (k:Kx.Kernel) (n:Nat):List Int:=(k.envs.take n).foldl (fun xs e=>bump xs e.root) (Kx.counts k.mem k.infos)
theorem foldl_bump (es:List Kx.Env):∀ (xs:List Int),xs.length=12→(∀ e ∈ es,e.root≤11)→(es.foldl (fun xs e=>bump xs e.root) xs).length=12∧∀ g,g<12→(es.foldl (fun xs e=>bump xs e.root) xs).getD g 0=xs.getD g 0+(es.countP (fun e=>e.root==(g:Int)):Nat):=by
  induction es with
  | nil=>intro xs hx _;exact ⟨hx,fun g _=>by simp⟩
  | cons e es ih =>
    intro xs hx hr;have hb:(bump xs e.root).length=12:=by unfold bump;split <;> simp [hx]
    obtain ⟨h1,h2⟩:=ih (bump xs e.root) hb (fun x hx=>hr x (List.mem_cons_of_mem _ hx))
    refine ⟨h1,fun g hg=>?_⟩
    rw [List.foldl_cons,h2 g hg,List.countP_cons];have he:=hr e List.mem_cons_self;unfold bump
    by_cases h0:0≤e.root
    · rw [if_pos h0];obtain ⟨r,hr0⟩:=Int.eq_ofNat_of_zero_le h0;rw [hr0,Int.toNat_natCast,List.getD_eq_getElem?_getD,List.getElem?_set]
      by_cases hg0:r=g
      · subst hg0;have:r<xs.length:=by omega
        simp [this]
        omega
      · rw [if_neg hg0,←List.getD_eq_getElem?_getD];have:((r:Int)==(g:Int))=false:=by simp;omega
        simp [this]
    · rw [if_neg h0];have:(e.root==(g:Int))=false:=by simp;omega
      simp [this]
theorem bumps_at {k:Kx.Kernel} (h:Kx.kernelOk k=true) (n:Nat):(bumps k n).length=12∧∀ g,g<12→0≤(bumps k n).getD g 0∧(bumps k n).getD g 0≤50∧(3≤n→(bumps k n).getD g 0=(Kx.inf k.infos g).refs):=by
  have hk:=Kx.ok_iff.1 h;have hr:∀ e ∈ k.envs.take n,e.root≤11:=fun e he=>by
    obtain ⟨i,hi,rfl⟩:=Kx.mem_envAt (List.mem_of_mem_take he);have:=(kernelOk_parts h).2.2.2.2.2 i (by have:=hk.e3;omega);exact this
  obtain ⟨h1,h2⟩:=foldl_bump (k.envs.take n) (Kx.counts k.mem k.infos) (by simp [Kx.counts]) hr;refine ⟨h1,fun g hg=>?_⟩
  have h3:=h2 g hg;have hc:(Kx.counts k.mem k.infos).getD g 0=(Kx.countT k.mem k.infos g:Int):=by unfold Kx.counts;rw [List.getD_eq_getElem?_getD];simp [hg]
  have h4:=hk.refs g hg;unfold Kx.rootsN at h4;have h5:(k.envs.take n).countP (fun e=>e.root==(g:Int))≤k.envs.countP (fun e=>e.root==(g:Int)):=(List.take_sublist n k.envs).countP_le
  have h6:(Kx.inf k.infos g).refs≤50:=by
    rcases Kx.infoOk_iff.1 (hk.iok g hg) with h0 | h0
    · rw [h0];decide
    · exact h0.2.2.2.2
  have hbe:bumps k n=(k.envs.take n).foldl (fun xs e=>bump xs e.root) (Kx.counts k.mem k.infos):=rfl;rw [hbe,h3,hc];refine ⟨by omega,by omega,fun hn=>?_⟩
  rw [List.take_of_length_le (by have:=hk.e3;omega)];omega
theorem bumps_succ {k:Kx.Kernel} {n:Nat} (hn:n<k.envs.length):bumps k (n+1)=bump (bumps k n) (Kx.envAt k.envs n).root:=by
  unfold bumps;rw [List.take_succ_eq_append_getElem hn,List.foldl_append];have:Kx.envAt k.envs n=k.envs[n]:=by simp [Kx.envAt,hn]
  rw [this];rfl
set_option maxHeartbeats 8000000 in
set_option maxRecDepth 100000 in
theorem FnKernelRefs_c (a:Option Addr) (len0 cap0:Nat) (z0:List Int) (w:World) (h0:IsRow .u8 w a len0 cap0 z0) :
    Calls Tryz.prog 5 #[.slice a len0 cap0] w (YesB w):=by
  by_cases hl0:len0≤1048576
  · have hI0:¬ (1048576:Int)<(len0:Int):=by omega
    have Hr:=hI_ (IsRow.rb h0);clear h0;go_enter Tryz.func5,Tryz.ntmps5;go_wp2_with fail;clear hI0;refine (DrawKernelValid_c _ _ _ Hr.out).mono ?_;rintro e w1 ⟨k,v0,v1,v2,v3,rfl,_,hs,hk,hb⟩;obtain ⟨_,a0,m0,rfl,_,_⟩:=hk.m.len;obtain ⟨a1,m1,rfl,_,_⟩:=RS.val hk.i;obtain ⟨_,a2,m2,rfl,_,_⟩:=hk.e.len;obtain ⟨a3,m3,rfl,_,_⟩:=RS.val hk.c;obtain ⟨w2,hw2⟩:∃ V,w1.alloc (.cells #[.slice a0 k.mem.length m0,.slice a1 k.infos.length m1,.slice a2 k.envs.length m2,.slice a3 k.cache.length m3] 28)=V:=⟨_,rfl⟩;obtain ⟨g,hg⟩:∃ g,w1.heap.size=g:=⟨_,rfl⟩;have H:=hI_ (show LS w w2 g k (.slice a0 k.mem.length m0) (.slice a1 k.infos.length m1) (.slice a2 k.envs.length m2) (.slice a3 k.cache.length m3) from LS.start hs hk hb hw2 hg);have Hg:=hI_ hg;clear hs hk hb Hg;obtain ⟨c0,c1,c2,c3⟩:=H.out.x.c4;go_wp2_with fail;clear c0 c1 c2 c3 hw2 hg
    refine (implKernelValid_c k _ _ _ _ _ H.out.r H.out.s).mono ?_;rintro e w3 ⟨rfl,hb⟩;replace H:=hI_ (H.out.go hb);clear hb Hr;obtain ⟨c0,c1,c2,c3⟩:=H.out.x.c4;go_wp2_with fail;clear c0 c1 c2 c3;refine (specKernelValid_c k _ _ _ _ _ H.out.r H.out.s).mono ?_;rintro e w4 ⟨rfl,hb⟩;replace H:=hI_ (H.out.go hb);clear hb
    cases hok:Kx.kernelOk k with
    | false =>
      clear hok;go_wp2_with fail;go_ret;exact ⟨rfl,H.out.b⟩
    | true =>
      have Hok:=hI_ hok;clear hok;obtain ⟨hmo,hio,h12,_,h3,hrr⟩:=kernelOk_parts Hok.out;have H12:=hI_ h12;have H3:=hI_ h3;have Hrr:=hI_ hrr;have HC:=hI_ (TableCount_c k.mem k.infos _ _ w4 H.out.r.m hmo H.out.r.i H.out.s.1 hio h12);clear hmo hio h12 h3 hrr;obtain ⟨c0,c1,c2,c3⟩:=H.out.x.c4;go_wp2_with fail;clear c0 c1 c2 c3;refine HC.out.mono ?_;rintro en w5 ⟨u,rfl,ho,hb⟩;obtain ⟨uc,ucc,ev⟩:=ho.ri.val;have hl12:(Kx.counts k.mem k.infos).length=12:=by simp [Kx.counts]
      rw [hl12] at ev;subst ev;have H5:=hI_ (H.out.go hb);have HO:=hI_ (show OI w5 w4.heap.size (.slice uc 12 ucc) (bumps k 0) from ho);have hz:=hI_ hb.size;have Hb45:=hI_ hb;clear ho hb HC hl12;go_wp2_with fail;go_loopw [7] (fun i wr=>∃ e:Nat,i=.int .i64 e∧e≤3∧Hid (OI wr w4.heap.size (.slice uc 12 ucc) (bumps k e))∧Hid (Below w4.heap.size w4 wr)) (fun i _=>3 - (intOf i).toNat)
      case atStart=>exact ⟨0,rfl,by omega,HO,Hb45⟩
      case round =>
        obtain ⟨e,rfl,he,HO,Hb⟩:=hrel;have HW:=hI_ (H.out.go Hb.out)
        by_cases hlt:e<3
        · have hlI:(e:Int)<3:=by omega
          have he3:e<k.envs.length:=by rw [H3.out];exact hlt
          have heI:(e:Int)<(k.envs.length:Int):=by omega
          obtain ⟨be,oe,ce,ur,ev,hbe,_,gr,_⟩:=HW.out.r.e.at he3;simp only [Value.slice.injEq] at ev;obtain ⟨rfl,_,rfl⟩:=ev;obtain ⟨c0,c1,c2,c3⟩:=HW.out.x.c4;have hrb:=Hrr.out e hlt;have Hs:=hI_ (bumps_succ (k:=k) he3);have HG:=hI_ (bumps_at Hok.out e);generalize (Kx.envAt k.envs e).root=rt at gr hrb Hs
          by_cases hr0:0≤rt
          · obtain ⟨R,rfl⟩:=Int.eq_ofNat_of_zero_le hr0;have hR12:R<12:=by omega
            have hRI:(R:Int)<12:=by omega
            obtain ⟨gc,cap',ev,hgb,hcg,hfg⟩:=HO.out.at (k:=R) (by rw [HG.out.1];exact hR12);rw [HG.out.1] at ev;simp only [Value.slice.injEq] at ev;obtain ⟨rfl,_,rfl⟩:=ev;have hx:=HG.out.2 R hR12;have hxe:(bumps k e)[R]'(by rw [HG.out.1];exact hR12)=(bumps k e).getD R 0:=by rw [List.getD_eq_getElem?_getD,List.getElem?_eq_getElem (by rw [HG.out.1];exact hR12)];rfl
            rw [hxe] at hcg;obtain ⟨hx0,hx1,_⟩:=hx;have Hs2:=hI_ (show bumps k (e+1)=(bumps k e).set R ((bumps k e).getD R 0+1) by rw [Hs.out];unfold bump;rw [if_pos hr0];rfl);have Hlen:=hI_ HG.out.1;clear hxe hr0;generalize (bumps k e).getD R 0=x at hcg hx0 hx1 Hs2;have hwr:IntKind.i64.wrap (x+1)=x+1:=IntWalk.i64_in _ (by omega);go_wp2_with fail;go_still_tail 18,(by kernel_rfl)
            change wpList _ _ _ _ _ wr.drew;have Bd:Below wr.heap.size wr wr.drew:=Below.drewB bR_;obtain ⟨d,hd⟩:∃ d,wr.drew=d:=⟨_,rfl⟩;rw [hd] at Bd ⊢;replace HO:=hI_ (HO.out.below Bd);replace Hb:=hI_ (Hb.out.trans (Bd.mono Hb.out.size));obtain ⟨gc2,cap2,ev,_,hcg2,hfg2⟩:=HO.out.at (k:=R) (by rw [Hlen.out];exact hR12);simp only [Value.slice.injEq,Option.some.injEq,Addr.mk.injEq] at ev;obtain ⟨⟨rfl,_⟩,hq,_⟩:=ev;obtain ⟨zz,hzz⟩:∃ zz,d.cell? ⟨gc,R,none⟩=some zz:=⟨_,hcg2⟩;have Hst:=hI_ (HO.out.stored Hlen.out R (x+1));rw [←Hs2.out] at Hst;have Hb2:=hI_ (Hb.out.setCell (p:=⟨gc,R,none⟩) hgb (.int .i64 (x+1)));clear hd Bd hcg hfg hcg2 c0 c1 c2 c3 gr hbe hwr hq;go_wp2_with fail;go_roundw
            case rel=>exact ⟨e+1,by go_num,by omega,hI_ Hst.out.1,Hb2⟩
            case measure=>simp [intOf];omega
          · have Hs2:=hI_ (show bumps k (e+1)=bumps k e by rw [Hs.out];unfold bump;rw [if_neg hr0]);have hrd:rt<0:=by omega
            go_wp2_with fail;go_roundw
            case rel=>exact ⟨e+1,by go_num,by omega,hI_ (by rw [Hs2.out];exact HO.out),Hb⟩
            case measure=>simp [intOf];omega
        · obtain rfl:e=3:=by omega
          have HG:=hI_ (bumps_at Hok.out 3);obtain ⟨wo,rfl⟩:∃ wo:World,wo=wr:=⟨_,rfl⟩;have HI:=hI_ HO.out.ri;clear HO;go_wp2_with fail;go_loopw [8] (fun i wr=>∃ f:Nat,i=.int .i64 f∧f≤12∧Hid (Below wo.heap.size wo wr)) (fun i _=>12 - (intOf i).toNat)
          case atStart=>exact ⟨0,rfl,by omega,hI_ bR_⟩
          case round =>
            obtain ⟨f,rfl,hf,Hx⟩:=hrel
            by_cases hfl:f<12
            · have hfI:(f:Int)<12:=by omega
              have HV:=hI_ (HW.out.go Hx.out);have HIv:=hI_ (HI.out.below Hx.out);have hf12:f<k.infos.length:=by rw [H12.out];exact hfl
              have hfI2:(f:Int)<(k.infos.length:Int):=by omega
              obtain ⟨bi,oi,ci,ev,hbi,_,_,gg⟩:=RInfo.at HV.out.r.i hf12;simp only [Value.slice.injEq] at ev;obtain ⟨rfl,_,rfl⟩:=ev;obtain ⟨bl,ol,cl,ev,hbl,hc⟩:=HIv.out.at (k:=f) (by rw [HG.out.1];exact hfl);rw [HG.out.1] at ev;simp only [Value.slice.injEq] at ev;obtain ⟨rfl,_,rfl⟩:=ev;have hxe:(bumps k 3)[f]'(by rw [HG.out.1];exact hfl)=(Kx.inf k.infos f).refs:=by
                rw [←(HG.out.2 f hfl).2.2 (by omega),List.getD_eq_getElem?_getD,List.getElem?_eq_getElem (by rw [HG.out.1];exact hfl)];rfl
              rw [hxe] at hc;generalize (Kx.inf k.infos f).refs=x at gg hc;obtain ⟨c0,c1,c2,c3⟩:=HV.out.x.c4;clear hxe hbi hbl;go_wp2_with fail;go_quiet (fail);go_wp2_with fail;go_roundw
              case rel=>exact ⟨f+1,by go_num,by omega,hI_ (Hx.out.trans ((below_drewN _ _).mono Hx.out.size))⟩
              case measure=>simp [intOf];omega
            · obtain rfl:f=12:=by omega
              go_wp2_with fail;go_ret;exact ⟨rfl,(HW.out.go Hx.out).b⟩
  · have hI0:(1048576:Int)<(len0:Int):=by omega
    clear h0;go_enter Tryz.func5,Tryz.ntmps5;go_wp2_with fail;go_ret;exact ⟨rfl,Below.refl _ _⟩
end Go.Proofs.YtenebmeaoidnoaaGreatDoor
