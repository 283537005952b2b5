/- The law FnKernelTables: nobody reaches a table as data. (printed by kl.py) -/
import Derived.Test.YtenebmeaoidnoaaGreatDoorKS
import Derived.Test.YtenebmeaoidnoaaGreatDoorKR
import Derived.Test.YtenebmeaoidnoaaGreatDoorKY
namespace Go.Proofs.YtenebmeaoidnoaaGreatDoor
open Go.RowKit
theorem tab_row {k:Kx.Kernel} (h:Kx.kernelOk k=true) {f:Nat} (hf:f<12) (ht:Kx.isTab (Kx.inf k.infos f).kind=true):Kx.rowOk k.mem k.infos f (Kx.inf k.infos f).kind [⟨#[]⟩]=true:=by
  unfold Kx.kernelOk Kx.tabsOk at h;simp only [Bool.and_eq_true,List.all_eq_true] at h;have:=h.1.1.2 f (List.mem_range.2 hf);rw [ht] at this;exact this
theorem walk_data {k:Kx.Kernel} (h:Kx.kernelOk k=true) {e R a:Nat} (he:e<3) (hR:(Kx.envAt k.envs e).root=(R:Int)) (ha:a<64) {f c:Int} {wt:Bool} (hw:Kx.walk k.mem R a=((f,c,wt),0)):∃ f':Nat,f=f'∧f'<12∧(Kx.inf k.infos f').kind=1:=by
  have hk:=Kx.ok_iff.1 h;have hroot:=hk.root e he;rw [hR] at hroot;obtain ⟨_,hR11,hk3⟩:=hroot.resolve_left (by omega);rw [Int.toNat_natCast] at hk3;have hR12:R<12:=by omega
  have hmem:∀ t i,t<12→i<4→Kx.word k.mem t i ∈ Kx.row k.mem t:=fun t i ht hi=>by
    have hl:i<(Kx.row k.mem t).length:=by rw [hk.m4 t ht];exact hi
    have e:Kx.word k.mem t i=(Kx.row k.mem t)[i]:=by unfold Kx.word;simp [hl]
    rw [e];exact List.getElem_mem hl
  unfold Kx.walk at hw;split at hw
  · simp at hw
  · rename_i t b he1
    split at hw
    · simp at hw
    · rename_i f2 d he2
      simp only [Prod.mk.injEq] at hw;have ht12:=Kx.entry_lt he1;have h1:=hk.tab R hR12 (by rw [hk3];rfl) _ (hmem R (a / 16) hR12 (by omega));have hkt:(Kx.inf k.infos t).kind=2:=by
        rcases h1 with h0 | ⟨g,b2,he3,_,hkg⟩
        · rw [h0] at he1;simp [Kx.entry] at he1
        · rw [he1] at he3;simp only [Option.some.injEq,Prod.mk.injEq] at he3;rw [he3.1,hkg,hk3];rfl
      have h2:=hk.tab t ht12 (by rw [hkt];rfl) _ (hmem t (a / 4 % 4) ht12 (by omega));refine ⟨f2,hw.1.1.symm,Kx.entry_lt he2,?_⟩;rcases h2 with h0 | ⟨g,b2,he3,_,hkg⟩
      · rw [h0] at he2;simp [Kx.entry] at he2
      · rw [he2] at he3;simp only [Option.some.injEq,Prod.mk.injEq] at he3;rw [he3.1,hkg,hkt];rfl
set_option maxHeartbeats 8000000 in
set_option maxRecDepth 100000 in
theorem FnKernelTables_c (a:Option Addr) (len0 cap0:Nat) (z0:List Int) (w:World) (h0:IsRow .u8 w a len0 cap0 z0) :
    Calls Tryz.prog 7 #[.slice a len0 cap0] w (YesB w):=by
  by_cases hl0:len0≤1048576
  · have hI0:¬ (1048576:Int)<(len0:Int):=by omega
    have Hr:=hI_ (IsRow.rb h0);clear h0;go_enter Tryz.func7,Tryz.ntmps7;go_wp2_with fail;clear hI0;refine (DrawKernelValid_c _ _ _ Hr.out).mono ?_;rintro e w1 ⟨k,v0,v1,v2,v3,rfl,_,hs,hk,hb⟩;obtain ⟨_,a0,m0,rfl,_,_⟩:=hk.m.len;obtain ⟨a1,m1,rfl,_,_⟩:=RS.val hk.i;obtain ⟨_,a2,m2,rfl,_,_⟩:=hk.e.len;obtain ⟨a3,m3,rfl,_,_⟩:=RS.val hk.c;obtain ⟨w2,hw2⟩:∃ V,w1.alloc (.cells #[.slice a0 k.mem.length m0,.slice a1 k.infos.length m1,.slice a2 k.envs.length m2,.slice a3 k.cache.length m3] 28)=V:=⟨_,rfl⟩;obtain ⟨g,hg⟩:∃ g,w1.heap.size=g:=⟨_,rfl⟩;have H:=hI_ (show LS w w2 g k (.slice a0 k.mem.length m0) (.slice a1 k.infos.length m1) (.slice a2 k.envs.length m2) (.slice a3 k.cache.length m3) from LS.start hs hk hb hw2 hg);have Hg:=hI_ hg;clear hs hk hb Hg;obtain ⟨c0,c1,c2,c3⟩:=H.out.x.c4;go_wp2_with fail;clear c0 c1 c2 c3 hw2 hg
    refine (implKernelValid_c k _ _ _ _ _ H.out.r H.out.s).mono ?_;rintro e w3 ⟨rfl,hb⟩;replace H:=hI_ (H.out.go hb);clear hb Hr;obtain ⟨c0,c1,c2,c3⟩:=H.out.x.c4;go_wp2_with fail;clear c0 c1 c2 c3;refine (specKernelValid_c k _ _ _ _ _ H.out.r H.out.s).mono ?_;rintro e w4 ⟨rfl,hb⟩;replace H:=hI_ (H.out.go hb);clear hb
    cases hok:Kx.kernelOk k with
    | false =>
      clear hok;go_wp2_with fail;go_ret;exact ⟨rfl,H.out.b⟩
    | true =>
      have Hok:=hI_ hok;clear hok;obtain ⟨hmo,hio,h12,hx1,h3,hx2⟩:=kernelOk_parts Hok.out;clear hx1 hx2;have H12:=hI_ h12;have H3:=hI_ h3;have Hmo:=hI_ hmo;have Hio:=hI_ hio;clear h12 h3 hmo hio;go_wp2_with fail;go_loopw [6] (fun i wr=>∃ f:Nat,i=.int .i64 f∧f≤12∧Hid (LS w wr g k (.slice a0 k.mem.length m0) (.slice a1 k.infos.length m1) (.slice a2 k.envs.length m2) (.slice a3 k.cache.length m3))) (fun i _=>12 - (intOf i).toNat)
      case atStart=>exact ⟨0,rfl,by omega,H⟩
      case round =>
        clear H;obtain ⟨f,rfl,hf,H⟩:=hrel;obtain ⟨c0,c1,c2,c3⟩:=H.out.x.c4
        by_cases hfl:f<12
        · have hfI:(f:Int)<12:=by omega
          have hf12:f<k.infos.length:=by rw [H12.out];exact hfl
          have hfI2:(f:Int)<(k.infos.length:Int):=by omega
          obtain ⟨bi,oi,ci,ev,hbi,gk,_,_⟩:=RInfo.at H.out.r.i hf12;simp only [Value.slice.injEq] at ev;obtain ⟨rfl,_,rfl⟩:=ev;have Hrow:=hI_ (fun ht=>tab_row Hok.out hfl ht);generalize (Kx.inf k.infos f).kind=kd at gk Hrow
          by_cases ht:kd=2∨kd=3
          · have HR:=hI_ (Hrow.out (by rcases ht with rfl | rfl <;> rfl))
            have Hkd:=hI_ ht;have HB:=hI_ (show Below wr.heap.size wr (wr.alloc (.cells #[.string ⟨#[]⟩] 9)) from bL_);have HA:=hI_ (H.out.go HB.out);have HS:=hI_ (show RStr (wr.alloc (.cells #[.string ⟨#[]⟩] 9)) (.slice (some ⟨wr.heap.size,0,none⟩) 1 1) [⟨#[]⟩] from RS.one (f:=strC) (sz:=1) ⟨#[]⟩ #[.string ⟨#[]⟩] rfl wr _);have HC:=hI_ (TableOk_c k.mem k.infos f kd [⟨#[]⟩] _ _ _ _ HA.out.r.m Hmo.out HA.out.r.i HA.out.s.1 Hio.out H12.out HS.out (fun s hs=>by simp at hs;subst hs;decide) (by decide) Hkd.out hfl);rw [HR.out] at HC;have hne:(Kx.needs kd != 0)=true:=by rcases ht with rfl | rfl <;> rfl
            clear ht HS hbi Hrow HB;go_wp2_with fail;refine (TableNeeds_c _ _).mono ?_;rintro en U ⟨rfl,rfl⟩;go_wp2_with fail;refine HC.out.mono ?_;rintro en w5 ⟨rfl,hb⟩;replace H:=hI_ (HA.out.go hb);clear hb HC c0 c1 c2 c3 gk hne;go_wp2_with fail;go_roundw
            case rel=>exact ⟨f+1,by go_num,by omega,H⟩
            case measure=>simp [intOf];omega
          · have hne:(Kx.needs kd != 0)=false:=by
              have:Kx.isTab kd=false:=by unfold Kx.isTab;simp;omega
              unfold Kx.needs;rw [this];rfl
            clear ht hbi Hrow;go_wp2_with fail;refine (TableNeeds_c _ _).mono ?_;rintro en U ⟨rfl,rfl⟩;go_wp2_with fail;go_roundw
            case rel=>exact ⟨f+1,by go_num,by omega,H⟩
            case measure=>simp [intOf];omega
        · obtain rfl:f=12:=by omega
          rw [show ((12:Nat):Int)=(12:Int) from rfl];obtain ⟨wo,rfl⟩:∃ wo:World,wo=wr:=⟨_,rfl⟩;clear c0 c1 c2 c3;go_wp2_with fail;go_loopw [8] (fun i wr=>∃ e:Nat,i=.int .i64 e∧e≤3∧Hid (LS w wr g k (.slice a0 k.mem.length m0) (.slice a1 k.infos.length m1) (.slice a2 k.envs.length m2) (.slice a3 k.cache.length m3))) (fun i _=>3 - (intOf i).toNat)
          case atStart=>exact ⟨0,rfl,by omega,H⟩
          case round =>
            clear H;obtain ⟨e,rfl,he,H⟩:=hrel
            by_cases hlt:e<3
            · have hlI:(e:Int)<3:=by omega
              obtain ⟨wo2,rfl⟩:∃ wo:World,wo=wr:=⟨_,rfl⟩;go_wp2_with fail;go_loopw [9] (fun i wr=>∃ a:Nat,i=.int .i64 a∧a≤64∧Hid (LS w wr g k (.slice a0 k.mem.length m0) (.slice a1 k.infos.length m1) (.slice a2 k.envs.length m2) (.slice a3 k.cache.length m3))) (fun i _=>64 - (intOf i).toNat)
              case atStart=>exact ⟨0,rfl,by omega,H⟩
              case round =>
                clear H;obtain ⟨a,rfl,ha64,H⟩:=hrel;obtain ⟨c0,c1,c2,c3⟩:=H.out.x.c4
                by_cases ha:a<64
                · have haI:(a:Int)<64:=by omega
                  have he3:e<k.envs.length:=by rw [H3.out];exact hlt
                  have heI:(e:Int)<(k.envs.length:Int):=by omega
                  obtain ⟨be,oe,ce,ur,ev,hbe,_,gr,_⟩:=H.out.r.e.at he3;simp only [Value.slice.injEq] at ev;obtain ⟨rfl,_,rfl⟩:=ev;obtain ⟨rt,hrt⟩:∃ r,(Kx.envAt k.envs e).root=r:=⟨_,rfl⟩;rw [hrt] at gr;have hr11:=(kernelOk_parts Hok.out).2.2.2.2.2 e hlt;rw [hrt] at hr11
                  by_cases hr0:0≤rt
                  · obtain ⟨R,rfl⟩:=Int.eq_ofNat_of_zero_le hr0;have Hroot:=hI_ hrt;have hR:R<12:=by omega
                    obtain ⟨⟨⟨f,c,wt⟩,code⟩,hres⟩:∃ r,Kx.walk k.mem R a=r:=⟨_,rfl⟩;have Hres:=hI_ hres;have Hbe0:=hI_ hbe;have G0:=hI_ gr;clear hres hrt hr0 hbe hr11;go_wp2_with fail;clear gr c0 c1 c2 c3;obtain ⟨d,hd⟩:∃ d,wr.drew=d:=⟨_,rfl⟩;have Bd:Below wr.heap.size wr d:=hd ▸ Below.drewB bR_;have Hd:=hI_ hd;clear hd;replace H:=hI_ (H.out.go Bd);have Hbe:=hI_ (Nat.lt_of_lt_of_le Hbe0.out Bd.size);have G:=hI_ ((Bd.cell (p:=⟨be,oe+e*2+1,none⟩) Hbe0.out).trans G0.out);clear Bd Hbe0 G0;have BD:=hI_ (Below.refl d.heap.size d)
                    refine wpL (S:=(fun U:World=>U.cell? ⟨g,0,none⟩=some (.slice a0 k.mem.length m0)∧U.cell? ⟨g,2,none⟩=some (.slice (some ⟨be,oe,none⟩) k.envs.length m2)∧U.cell? ⟨be,oe+e*2+1,none⟩=some (.int .i64 (R:Int)))) (xs:=[]) (by kernel_rfl) (by rw [Hd.out];exact ⟨(BD.out.cell (p:=⟨g,0,none⟩) H.out.x.lt).trans (H.out.x.cell 0),(BD.out.cell (p:=⟨g,2,none⟩) H.out.x.lt).trans (H.out.x.cell 2),(BD.out.cell (p:=⟨be,oe+e*2+1,none⟩) Hbe.out).trans G.out⟩) (fun hHeld=>?_)
                    rw [Hd.out];rw [Hd.out] at hHeld;clear Hd;refine tP 0 ?_;refine tL 1 ?_;refine tP 2 ?_;refine tL 3 ?_;refine tP 4 ?_;refine tP 5 ?_;refine tP 6 ?_;refine tL 7 ?_;refine tP 8 ?_;refine do2L 9 13 (by kernel_rfl) rfl rfl (fun K hK=>?_) (fun K hK=>?_)
                    · rw [if_pos (by rfl)];go_simp;go_at_call 14;refine (implWalkP_c k.mem R a _ d (H.out.r.m.below BD.out) Hmo.out hR ha).mono ?_;rintro en V1 ⟨rfl,hb⟩;rw [Hres.out];unfold walkV;replace BD:=hI_ (BD.out.trans (hb.mono BD.out.size));refine hK.out _ _ ?_ (fun hHeld=>?_)
                      · exact ⟨(BD.out.cell (p:=⟨g,0,none⟩) H.out.x.lt).trans (H.out.x.cell 0),(BD.out.cell (p:=⟨g,2,none⟩) H.out.x.lt).trans (H.out.x.cell 2),(BD.out.cell (p:=⟨be,oe+e*2+1,none⟩) Hbe.out).trans G.out⟩
                      clear hK K;refine nL ?_;refine tP 10 ?_;refine tP 11 ?_;refine tP 12 ?_;refine doL 13 (by kernel_rfl) rfl (fun K hK=>?_);rw [if_pos (by rfl)];go_simp;obtain ⟨U,hU⟩:∃ V,V1.alloc (.cells #[.int .i64 0,.int .i64 0,.bool false] 35)=V:=⟨_,rfl⟩;have XP:=hI_ (show BX U V1.heap.size 35 [.int .i64 0,.int .i64 0,.bool false] from hU ▸ BX.new V1 _ _);obtain ⟨g7,hg7⟩:∃ g,V1.heap.size=g:=⟨_,rfl⟩;rw [hg7] at XP ⊢;have hgd:d.heap.size≤g7:=by rw [←hg7];exact BD.out.size
                      replace BD:=hI_ (show Below d.heap.size d U from hU ▸ BD.out.alloc BD.out.size _)
                      try rw [hU]
                      clear hU hg7;refine hK.out _ _ ?_ (fun hHeld=>?_)
                      · exact ⟨(BD.out.cell (p:=⟨g,0,none⟩) H.out.x.lt).trans (H.out.x.cell 0),(BD.out.cell (p:=⟨g,2,none⟩) H.out.x.lt).trans (H.out.x.cell 2),(BD.out.cell (p:=⟨be,oe+e*2+1,none⟩) Hbe.out).trans G.out⟩
                      clear hK K;refine nL ?_;obtain ⟨p0,p1,p2⟩:U.cell? ⟨g7,0,none⟩=some (.int .i64 0)∧U.cell? ⟨g7,1,none⟩=some (.int .i64 0)∧U.cell? ⟨g7,2,none⟩=some (.bool false):=⟨XP.out.cell 0,XP.out.cell 1,XP.out.cell 2⟩;obtain ⟨z0,z1,z2⟩:U.frozen? ⟨g7,0,none⟩=false∧U.frozen? ⟨g7,1,none⟩=false∧U.frozen? ⟨g7,2,none⟩=false:=⟨XP.out.frozen 0,XP.out.frozen 1,XP.out.frozen 2⟩;replace XP:=hI_ (((XP.out.set 0 (.int .i64 f)).set 1 (.int .i64 c)).set 2 (.bool wt));replace BD:=hI_ (((BD.out.setCell (p:=⟨g7,0,none⟩) hgd (.int .i64 f)).setCell (p:=⟨g7,1,none⟩) hgd (.int .i64 c)).setCell (p:=⟨g7,2,none⟩) hgd (.bool wt));refine doL 14 (by kernel_rfl) rfl (fun K hK=>?_);rw [if_pos (by rfl)];go_simp;refine hK.out _ _ ?_ (fun hHeld=>?_)
                      · exact ⟨(BD.out.cell (p:=⟨g,0,none⟩) H.out.x.lt).trans (H.out.x.cell 0),(BD.out.cell (p:=⟨g,2,none⟩) H.out.x.lt).trans (H.out.x.cell 2),(BD.out.cell (p:=⟨be,oe+e*2+1,none⟩) Hbe.out).trans G.out⟩
                      clear hK K;refine nL ?_;refine tP 15 ?_;refine doneL (by kernel_rfl) ?_ _;obtain ⟨V,hV⟩:∃ V,((U.setCell ⟨g7,0,none⟩ (.int .i64 f)).setCell ⟨g7,1,none⟩ (.int .i64 c)).setCell ⟨g7,2,none⟩ (.bool wt)=V:=⟨_,rfl⟩;rw [hV] at BD XP;replace XP:=hI_ (show BX V g7 35 [.int .i64 f,.int .i64 c,.bool wt] from XP.out)
                      try rw [hV]
                      clear hV p0 p1 p2 z0 z1 z2 hHeld hgd;replace H:=hI_ (H.out.go BD.out);clear BD G Hbe
                      by_cases hc0:code=0
                      · subst hc0;obtain ⟨f',rfl,hf12,hkd⟩:=walk_data Hok.out hlt Hroot.out ha Hres.out;have hfl:f'<k.infos.length:=by rw [H12.out];exact hf12
                        have hflI:(f':Int)<(k.infos.length:Int):=by omega
                        obtain ⟨bi,oi,ci,ev,hbi,gk,_,_⟩:=RInfo.at H.out.r.i hfl;simp only [Value.slice.injEq] at ev;obtain ⟨rfl,_,rfl⟩:=ev;rw [hkd] at gk;obtain ⟨p0,p1,p2⟩:V.cell? ⟨g7,0,none⟩=some (.int .i64 f')∧V.cell? ⟨g7,1,none⟩=some (.int .i64 c)∧V.cell? ⟨g7,2,none⟩=some (.bool wt):=⟨XP.out.cell 0,XP.out.cell 1,XP.out.cell 2⟩;obtain ⟨c0,c1,c2,c3⟩:=H.out.x.c4;clear hkd hbi XP;go_wp2_with fail;go_roundw
                        case rel=>exact ⟨a+1,by go_num,by omega,H⟩
                        case measure=>simp [intOf];omega
                      · have hcb:(code==0)=false:=by simpa using hc0
                        clear hc0 XP;go_wp2_with fail;go_roundw
                        case rel=>exact ⟨a+1,by go_num,by omega,H⟩
                        case measure=>simp [intOf];omega
                    · rw [if_pos (by rfl)];go_simp;obtain ⟨U,hU⟩:∃ V,d.alloc (.cells #[.int .i64 0,.int .i64 0,.bool false] 35)=V:=⟨_,rfl⟩;have XP:=hI_ (show BX U d.heap.size 35 [.int .i64 0,.int .i64 0,.bool false] from hU ▸ BX.new d _ _);obtain ⟨g7,hg7⟩:∃ g,d.heap.size=g:=⟨_,rfl⟩;rw [hg7] at XP ⊢;have hgd:d.heap.size≤g7:=by rw [←hg7];exact BD.out.size
                      replace BD:=hI_ (show Below d.heap.size d U from hU ▸ BD.out.alloc BD.out.size _)
                      try rw [hU]
                      clear hU hg7;refine hK.out _ _ ?_ (fun hHeld=>?_)
                      · exact ⟨(BD.out.cell (p:=⟨g,0,none⟩) H.out.x.lt).trans (H.out.x.cell 0),(BD.out.cell (p:=⟨g,2,none⟩) H.out.x.lt).trans (H.out.x.cell 2),(BD.out.cell (p:=⟨be,oe+e*2+1,none⟩) Hbe.out).trans G.out⟩
                      clear hK K;refine nL ?_;refine doL 9 (by kernel_rfl) rfl (fun K hK=>?_);rw [if_pos (by rfl)];go_simp;go_at_call 14;refine (implWalkP_c k.mem R a _ U (H.out.r.m.below BD.out) Hmo.out hR ha).mono ?_;rintro en V1 ⟨rfl,hb⟩;rw [Hres.out];unfold walkV;replace BD:=hI_ (BD.out.trans (hb.mono BD.out.size));replace XP:=hI_ (XP.out.below hb);refine hK.out _ _ ?_ (fun hHeld=>?_)
                      · exact ⟨(BD.out.cell (p:=⟨g,0,none⟩) H.out.x.lt).trans (H.out.x.cell 0),(BD.out.cell (p:=⟨g,2,none⟩) H.out.x.lt).trans (H.out.x.cell 2),(BD.out.cell (p:=⟨be,oe+e*2+1,none⟩) Hbe.out).trans G.out⟩
                      clear hK K;refine nL ?_;refine tP 10 ?_;refine tP 11 ?_;refine tP 12 ?_;obtain ⟨p0,p1,p2⟩:V1.cell? ⟨g7,0,none⟩=some (.int .i64 0)∧V1.cell? ⟨g7,1,none⟩=some (.int .i64 0)∧V1.cell? ⟨g7,2,none⟩=some (.bool false):=⟨XP.out.cell 0,XP.out.cell 1,XP.out.cell 2⟩;obtain ⟨z0,z1,z2⟩:V1.frozen? ⟨g7,0,none⟩=false∧V1.frozen? ⟨g7,1,none⟩=false∧V1.frozen? ⟨g7,2,none⟩=false:=⟨XP.out.frozen 0,XP.out.frozen 1,XP.out.frozen 2⟩;replace XP:=hI_ (((XP.out.set 0 (.int .i64 f)).set 1 (.int .i64 c)).set 2 (.bool wt));replace BD:=hI_ (((BD.out.setCell (p:=⟨g7,0,none⟩) hgd (.int .i64 f)).setCell (p:=⟨g7,1,none⟩) hgd (.int .i64 c)).setCell (p:=⟨g7,2,none⟩) hgd (.bool wt));refine doL 14 (by kernel_rfl) rfl (fun K hK=>?_);rw [if_pos (by rfl)];go_simp;refine hK.out _ _ ?_ (fun hHeld=>?_)
                      · exact ⟨(BD.out.cell (p:=⟨g,0,none⟩) H.out.x.lt).trans (H.out.x.cell 0),(BD.out.cell (p:=⟨g,2,none⟩) H.out.x.lt).trans (H.out.x.cell 2),(BD.out.cell (p:=⟨be,oe+e*2+1,none⟩) Hbe.out).trans G.out⟩
                      clear hK K;refine nL ?_;refine tP 15 ?_;refine doneL (by kernel_rfl) ?_ _;obtain ⟨V,hV⟩:∃ V,((V1.setCell ⟨g7,0,none⟩ (.int .i64 f)).setCell ⟨g7,1,none⟩ (.int .i64 c)).setCell ⟨g7,2,none⟩ (.bool wt)=V:=⟨_,rfl⟩;rw [hV] at BD XP;replace XP:=hI_ (show BX V g7 35 [.int .i64 f,.int .i64 c,.bool wt] from XP.out)
                      try rw [hV]
                      clear hV p0 p1 p2 z0 z1 z2 hHeld hgd;replace H:=hI_ (H.out.go BD.out);clear BD G Hbe
                      by_cases hc0:code=0
                      · subst hc0;obtain ⟨f',rfl,hf12,hkd⟩:=walk_data Hok.out hlt Hroot.out ha Hres.out;have hfl:f'<k.infos.length:=by rw [H12.out];exact hf12
                        have hflI:(f':Int)<(k.infos.length:Int):=by omega
                        obtain ⟨bi,oi,ci,ev,hbi,gk,_,_⟩:=RInfo.at H.out.r.i hfl;simp only [Value.slice.injEq] at ev;obtain ⟨rfl,_,rfl⟩:=ev;rw [hkd] at gk;obtain ⟨p0,p1,p2⟩:V.cell? ⟨g7,0,none⟩=some (.int .i64 f')∧V.cell? ⟨g7,1,none⟩=some (.int .i64 c)∧V.cell? ⟨g7,2,none⟩=some (.bool wt):=⟨XP.out.cell 0,XP.out.cell 1,XP.out.cell 2⟩;obtain ⟨c0,c1,c2,c3⟩:=H.out.x.c4;clear hkd hbi XP;go_wp2_with fail;go_roundw
                        case rel=>exact ⟨a+1,by go_num,by omega,H⟩
                        case measure=>simp [intOf];omega
                      · have hcb:(code==0)=false:=by simpa using hc0
                        clear hc0 XP;go_wp2_with fail;go_roundw
                        case rel=>exact ⟨a+1,by go_num,by omega,H⟩
                        case measure=>simp [intOf];omega
                  · have hrd:rt<0:=by omega
                    clear hrt hr0 hbe hr11;go_wp2_with fail;go_roundw
                    case rel=>exact ⟨e+1,by go_num,by omega,H⟩
                    case measure=>simp [intOf];omega
                · obtain rfl:a=64:=by omega
                  go_wp2_with fail;go_roundw
                  case rel=>exact ⟨e+1,by go_num,by omega,H⟩
                  case measure=>simp [intOf];omega
            · obtain rfl:e=3:=by omega
              go_wp2_with fail;go_ret;exact ⟨rfl,H.out.b⟩
  · have hI0:(1048576:Int)<(len0:Int):=by omega
    clear h0;go_enter Tryz.func7,Tryz.ntmps7;go_wp2_with fail;go_ret;exact ⟨rfl,Below.refl _ _⟩
end Go.Proofs.YtenebmeaoidnoaaGreatDoor
