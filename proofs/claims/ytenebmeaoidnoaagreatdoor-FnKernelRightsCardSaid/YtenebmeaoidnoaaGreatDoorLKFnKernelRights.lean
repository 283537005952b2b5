/- The law FnKernelRights: nobody reaches what needs another right. (printed by kl.py) -/
import Derived.Test.YtenebmeaoidnoaaGreatDoorKS
import Derived.Test.YtenebmeaoidnoaaGreatDoorKR
import Derived.Test.YtenebmeaoidnoaaGreatDoorKY
namespace Go.Proofs.YtenebmeaoidnoaaGreatDoor
open Go.RowKit
theorem reach_may {k:Kx.Kernel} (h:Kx.kernelOk k=true) {e f:Nat} (he:e<3) (hf:f ∈ Kx.reach k.mem (Kx.envAt k.envs e).root) :
    f<12∧Kx.may (Kx.envAt k.envs e).rights (Kx.inf k.infos f).guard=true∧Kx.rightOk (Kx.inf k.infos f).guard=true:=by
  have hk:=Kx.ok_iff.1 h;have h12:f<12:=(Kx.mem_reach.1 hf).2.1;refine ⟨h12,hk.all e he f hf,?_⟩;rcases Kx.infoOk_iff.1 (hk.iok f h12) with h0 | h0
  · rw [h0];decide
  · exact h0.2.2.1
set_option maxHeartbeats 8000000 in
set_option maxRecDepth 100000 in
theorem FnKernelRights_c (a:Option Addr) (len0 cap0:Nat) (z0:List Int) (w:World) (h0:IsRow .u8 w a len0 cap0 z0) :
    Calls Tryz.prog 6 #[.slice a len0 cap0] w (YesB w):=by
  by_cases hl0:len0≤1048576
  · have hI0:¬ (1048576:Int)<(len0:Int):=by omega
    have Hr:=hI_ (IsRow.rb h0);clear h0;go_enter Tryz.func6,Tryz.ntmps6;go_wp2_with fail;clear hI0;refine (DrawKernelValid_c _ _ _ Hr.out).mono ?_;rintro e w1 ⟨k,v0,v1,v2,v3,rfl,_,hs,hk,hb⟩;obtain ⟨_,a0,m0,rfl,_,_⟩:=hk.m.len;obtain ⟨a1,m1,rfl,_,_⟩:=RS.val hk.i;obtain ⟨_,a2,m2,rfl,_,_⟩:=hk.e.len;obtain ⟨a3,m3,rfl,_,_⟩:=RS.val hk.c;obtain ⟨w2,hw2⟩:∃ V,w1.alloc (.cells #[.slice a0 k.mem.length m0,.slice a1 k.infos.length m1,.slice a2 k.envs.length m2,.slice a3 k.cache.length m3] 28)=V:=⟨_,rfl⟩;obtain ⟨g,hg⟩:∃ g,w1.heap.size=g:=⟨_,rfl⟩;have H:=hI_ (show LS w w2 g k (.slice a0 k.mem.length m0) (.slice a1 k.infos.length m1) (.slice a2 k.envs.length m2) (.slice a3 k.cache.length m3) from LS.start hs hk hb hw2 hg);have Hg:=hI_ hg;clear hs hk hb Hg;obtain ⟨c0,c1,c2,c3⟩:=H.out.x.c4;go_wp2_with fail;clear c0 c1 c2 c3 hw2 hg
    refine (implKernelValid_c k _ _ _ _ _ H.out.r H.out.s).mono ?_;rintro e w3 ⟨rfl,hb⟩;replace H:=hI_ (H.out.go hb);clear hb Hr;obtain ⟨c0,c1,c2,c3⟩:=H.out.x.c4;go_wp2_with fail;clear c0 c1 c2 c3;refine (specKernelValid_c k _ _ _ _ _ H.out.r H.out.s).mono ?_;rintro e w4 ⟨rfl,hb⟩;replace H:=hI_ (H.out.go hb);clear hb
    cases hok:Kx.kernelOk k with
    | false =>
      clear hok;go_wp2_with fail;go_ret;exact ⟨rfl,H.out.b⟩
    | true =>
      have Hok:=hI_ hok;clear hok;obtain ⟨_,_,h12,_,h3,_⟩:=kernelOk_parts Hok.out;have H12:=hI_ h12;have H3:=hI_ h3;have Hro:=hI_ (kernelOk_rights Hok.out);clear h12 h3;go_wp2_with fail;go_loopw [6] (fun i wr=>∃ e:Nat,i=.int .i64 e∧e≤3∧Hid (LS w wr g k (.slice a0 k.mem.length m0) (.slice a1 k.infos.length m1) (.slice a2 k.envs.length m2) (.slice a3 k.cache.length m3))) (fun i _=>3 - (intOf i).toNat)
      case atStart=>exact ⟨0,rfl,by omega,H⟩
      case round =>
        clear H;obtain ⟨e,rfl,he,H⟩:=hrel
        by_cases hlt:e<3
        · have hlI:(e:Int)<3:=by omega
          have hkr:kreach k (e:Int)=Kx.reach k.mem (Kx.envAt k.envs e).root:=by unfold kreach;rw [Hok.out,show Kx.inR (e:Int) 0 2=true from Kx.inR_true.2 (by omega)];simp
          have HC:=implKernelReach_c k (e:Int) _ _ _ _ wr H.out.r H.out.s;obtain ⟨fs,hfs⟩:∃ l,Kx.reach k.mem (Kx.envAt k.envs e).root=l:=⟨_,rfl⟩;rw [hkr,hfs] at HC;have Hfs:=hI_ (show ∀ f ∈ fs,f<12∧Kx.may (Kx.envAt k.envs e).rights (Kx.inf k.infos f).guard=true∧Kx.rightOk (Kx.inf k.infos f).guard=true from hfs ▸ fun f hf=>reach_may Hok.out hlt hf)
          have HC2:=hI_ HC;clear hkr hfs HC;obtain ⟨c0,c1,c2,c3⟩:=H.out.x.c4;go_wp2_with fail;clear c0 c1 c2 c3;refine HC2.out.mono ?_;rintro en w5 ⟨u,rfl,ho,hb⟩;replace H:=hI_ (H.out.go hb);have HL:=hI_ ho.ri;obtain ⟨al,cl,ev⟩:=ho.ri.val;rw [ofN_length] at ev;subst ev;have hfl:=hI_ HL.out.1;clear hb ho HC2;go_wp2_with fail;have hfl2:fs.length≤1099511627776:=by have:=hfl.out;rw [ofN_length] at this;exact this
          go_loopw [8] (fun i wr=>∃ j:Nat,i=.int .i64 j∧j≤fs.length∧Hid (LS w wr g k (.slice a0 k.mem.length m0) (.slice a1 k.infos.length m1) (.slice a2 k.envs.length m2) (.slice a3 k.cache.length m3))∧Hid (RI wr (.slice al fs.length cl) (ofN fs))) (fun i _=>fs.length - (intOf i).toNat)
          case atStart=>exact ⟨0,rfl,Nat.zero_le _,H,HL⟩
          case round =>
            clear H HL;obtain ⟨j,rfl,hj,H,HL⟩:=hrel
            by_cases hjl:j<fs.length
            · have hjI:(j:Int)<(fs.length:Int):=by omega
              obtain ⟨bl,ol,cl',ev,hbl,hc⟩:=HL.out.at (k:=j) (by rw [ofN_length];exact hjl);rw [ofN_length] at ev;simp only [Value.slice.injEq] at ev;obtain ⟨rfl,_,rfl⟩:=ev;have hv:(ofN fs)[j]'(by rw [ofN_length];exact hjl)=((fs[j]:Nat):Int):=by simp [ofN]
              rw [hv] at hc;have Hf:=hI_ (Hfs.out _ (List.getElem_mem hjl));generalize fs[j]=f at hc Hf;have hf12:f<k.infos.length:=by rw [H12.out];exact Hf.out.1
              have hfI:(f:Int)<(k.infos.length:Int):=by omega
              have he3:e<k.envs.length:=by rw [H3.out];exact hlt
              have heI:(e:Int)<(k.envs.length:Int):=by omega
              obtain ⟨bi,oi,ci,ev,hbi,_,gg,_⟩:=RInfo.at H.out.r.i hf12;simp only [Value.slice.injEq] at ev;obtain ⟨rfl,_,rfl⟩:=ev;obtain ⟨be,oe,ce,u,ev,hbe,gr,_,hr⟩:=H.out.r.e.at he3;simp only [Value.slice.injEq] at ev;obtain ⟨rfl,_,rfl⟩:=ev;obtain ⟨ar,cr,rfl,_,_⟩:=RS.val hr;obtain ⟨c0,c1,c2,c3⟩:=H.out.x.c4;have HR:=hI_ hr;have Hgs:=hI_ (saneI_inf H.out.s.1 f);have Hrs:=hI_ (H.out.s.2 e he3);have Hroe:=hI_ (Hro.out e hlt);have Hm:=hI_ Hf.out.2;clear hv hr;generalize (Kx.inf k.infos f).guard=gd at gg Hgs Hm;go_wp2_with fail;go_still_tail 15,(by kernel_rfl)
              change wpList _ _ _ _ _ wr.drew;have Bd:Below wr.heap.size wr wr.drew:=Below.drewB bR_;obtain ⟨d,hd⟩:∃ d,wr.drew=d:=⟨_,rfl⟩;rw [hd] at Bd ⊢;replace H:=hI_ (H.out.go Bd);replace HL:=hI_ (HL.out.below Bd);replace HR:=hI_ (RS.below HR.out Bd);clear hd Bd c0 c1 c2 c3 gg gr hc hbi hbe hbl;go_wp2_with fail;refine (RightsMay_c _ gd _ _ HR.out Hrs.out Hroe.out Hm.out.2 Hgs.out).mono ?_;rintro en w6 ⟨rfl,hb⟩;rw [Hm.out.1];replace H:=hI_ (H.out.go hb);replace HL:=hI_ (HL.out.below hb);clear hb;go_wp2_with fail;go_roundw
              case rel=>exact ⟨j+1,by go_num,by omega,H,HL⟩
              case measure=>simp [intOf];omega
            · obtain rfl:j=fs.length:=by omega
              go_wp2_with fail;go_roundw
              case rel=>exact ⟨e+1,by go_num,by omega,H⟩
              case measure=>simp [intOf];omega
        · obtain rfl:e=3:=by omega
          go_wp2_with fail;go_ret;exact ⟨rfl,H.out.b⟩
  · have hI0:(1048576:Int)<(len0:Int):=by omega
    clear h0;go_enter Tryz.func6,Tryz.ntmps6;go_wp2_with fail;go_ret;exact ⟨rfl,Below.refl _ _⟩
end Go.Proofs.YtenebmeaoidnoaaGreatDoor
