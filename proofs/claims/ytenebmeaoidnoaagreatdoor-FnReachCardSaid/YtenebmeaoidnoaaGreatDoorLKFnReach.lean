/- The law FnReach: what can be reached is listed. (printed by kl.py) -/
import Derived.Test.YtenebmeaoidnoaaGreatDoorKI18
import Derived.Test.YtenebmeaoidnoaaGreatDoorKD23
import Derived.Test.YtenebmeaoidnoaaGreatDoorKE
namespace Go.Proofs.YtenebmeaoidnoaaGreatDoor
open Go.RowKit
structure LS (w W:World) (g:Nat) (k:Kx.Kernel) (v0 v1 v2 v3:Value):Prop where
  b:Below w.heap.size w W
  x:BX W g 28 [v0,v1,v2,v3]
  r:RK W v0 v1 v2 v3 k
  s:SaneK k
  h:w.heap.size≤g
section
variable {w W V w1 w2:World} {g:Nat} {k:Kx.Kernel} {v0 v1 v2 v3:Value}
theorem LS.go (h:LS w W g k v0 v1 v2 v3) (hb:Below W.heap.size W V):LS w V g k v0 v1 v2 v3:=
  ⟨h.b.trans (hb.mono h.b.size),h.x.below hb,h.r.below hb,h.s,h.h⟩
theorem LS.start (hs:SaneK k) (hk:RK w1 v0 v1 v2 v3 k) (hb:Below w.heap.size w w1) (hw2:w1.alloc (.cells #[v0,v1,v2,v3] 28)=w2) (hg:w1.heap.size=g):LS w w2 g k v0 v1 v2 v3:=by
  have B:Below w1.heap.size w1 w2:=hw2 ▸ bL_;subst hg;exact ⟨hb.trans (B.mono hb.size),hw2 ▸ BX.new w1 _ _,hk.below B,hs,hb.size⟩
end
theorem reach_asc (m:List (List Int)) (r:Int):(ofN (Kx.reach m r)).Pairwise (· < ·):=by
  unfold ofN Kx.reach;rw [List.pairwise_map];split
  · exact List.Pairwise.nil
  unfold Kx.sortedF;exact (List.Pairwise.filter _ List.pairwise_lt_range).imp fun h=>by omega
def allOf (m:List (List Int)) (R:Nat):List Nat:=R :: (Kx.tables m R ++ Kx.framesR m R)
theorem all_reach {m:List (List Int)} {R:Nat} (hR:R<12) (x:Nat):x ∈ Kx.reach m (R:Int)↔x ∈ allOf m R:=by
  unfold Kx.reach allOf;rw [if_neg (by omega),Int.toNat_natCast,Kx.mem_sortedF];constructor
  · exact fun h=>h.2
  intro h;refine ⟨?_,h⟩;rcases List.mem_cons.1 h with h | h
  · omega
  rcases List.mem_append.1 h with h | h
  · exact tabs_lt x h
  unfold Kx.framesR at h;exact (Kx.mem_sortedF.1 h).1
theorem all_len (m:List (List Int)) (R:Nat):(allOf m R).length≤25∧(Kx.framesR m R).length≤12:=by
  have h1:=tabs_len m R;have h2:(Kx.framesR m R).length≤12:=by unfold Kx.framesR Kx.sortedF;exact Nat.le_trans (List.length_filter_le _ _) (by simp)
  refine ⟨?_,h2⟩;unfold allOf;simp;omega
theorem mem_ofNn {x:Nat} {l:List Nat}:((x:Nat):Int) ∈ ofN l↔x ∈ l:=by
  unfold ofN;rw [List.mem_map]
  exact ⟨fun ⟨y, hy, e⟩ => by have : y = x := by omega
                              exact this ▸ hy,fun h=>⟨x,h,rfl⟩⟩
set_option maxHeartbeats 8000000 in
set_option maxRecDepth 100000 in
theorem FnReach_c (a:Option Addr) (len0 cap0:Nat) (z0:List Int) (w:World) (h0:IsRow .u8 w a len0 cap0 z0) :
    Calls Tryz.prog 9 #[.slice a len0 cap0] w (YesB w):=by
  by_cases hl0:len0≤1048576
  · have hI0:¬ (1048576:Int)<(len0:Int):=by omega
    have Hr:=hI_ (IsRow.rb h0);clear h0;go_enter Tryz.func9,Tryz.ntmps9;go_wp2_with fail;clear hI0;refine (DrawKernelReach_c _ _ _ Hr.out).mono ?_;rintro e w1 ⟨k,v0,v1,v2,v3,_,rfl,⟨env,rfl⟩,hs,hk,hb⟩;obtain ⟨_,a0,m0,rfl,_,_⟩:=hk.m.len;obtain ⟨a1,m1,rfl,_,_⟩:=RS.val hk.i;obtain ⟨_,a2,m2,rfl,_,_⟩:=hk.e.len;obtain ⟨a3,m3,rfl,_,_⟩:=RS.val hk.c;obtain ⟨w2,hw2⟩:∃ V,w1.alloc (.cells #[.slice a0 k.mem.length m0,.slice a1 k.infos.length m1,.slice a2 k.envs.length m2,.slice a3 k.cache.length m3] 28)=V:=⟨_,rfl⟩;obtain ⟨g,hg⟩:∃ g,w1.heap.size=g:=⟨_,rfl⟩;have H:=hI_ (show LS w w2 g k (.slice a0 k.mem.length m0) (.slice a1 k.infos.length m1) (.slice a2 k.envs.length m2) (.slice a3 k.cache.length m3) from LS.start hs hk hb hw2 hg);clear hs hk hb Hr;obtain ⟨c0,c1,c2,c3⟩:=H.out.x.c4;go_wp2_with fail;clear c0 c1 c2 c3 hw2 hg
    refine (implKernelReach_c k env _ _ _ _ _ H.out.r H.out.s).mono ?_;rintro e w3 ⟨u,rfl,ho,hb⟩;replace H:=hI_ (H.out.go hb);have HO:=hI_ ho.ri;clear hb ho;obtain ⟨c0,c1,c2,c3⟩:=H.out.x.c4;go_wp2_with fail;clear c0 c1 c2 c3;refine (specKernelReach_c k env _ _ _ _ _ H.out.r H.out.s).mono ?_;rintro e w4 ⟨u2,rfl,ho,hb⟩;replace H:=hI_ (H.out.go hb);replace HO:=hI_ (HO.out.below hb);have HW:=hI_ ho.ri;clear hb ho;go_wp2_with fail;refine (sameInts_c _ _ _ _ _ HO.out HW.out).mono ?_;rintro en w5 ⟨rfl,hb⟩;rw [decide_eq_true rfl];replace H:=hI_ (H.out.go hb);replace HO:=hI_ (HO.out.below hb);replace HW:=hI_ (HW.out.below hb);clear hb;obtain ⟨c0,c1,c2,c3⟩:=H.out.x.c4;go_wp2_with fail;clear c0 c1 c2 c3;refine (specKernelValid_c k _ _ _ _ _ H.out.r H.out.s).mono ?_;rintro e w6 ⟨rfl,hb⟩;replace H:=hI_ (H.out.go hb);replace HO:=hI_ (HO.out.below hb);replace HW:=hI_ (HW.out.below hb);clear hb
    cases hok:Kx.kernelOk k
    case' true =>
      have Hok:=hI_ hok
      by_cases he0:env<0
      case' neg =>
        by_cases he3:3≤env
        case' neg =>
          clear hok;obtain ⟨e,rfl⟩:=Int.eq_ofNat_of_zero_le (show 0≤env by omega);have hlt:e<3:=by omega
          obtain ⟨hmo,hio,h12,hx1,h3,hx2⟩:=kernelOk_parts Hok.out;have hr11:=hx2 e hlt;have Hmo:=hI_ hmo;have H3:=hI_ h3;have hkr:kreach k (e:Int)=Kx.reach k.mem (Kx.envAt k.envs e).root:=by unfold kreach;rw [Hok.out,show Kx.inR (e:Int) 0 2=true from Kx.inR_true.2 (by omega)];simp
          rw [hkr] at HO;have hl3:e<k.envs.length:=by rw [h3];exact hlt
          have heI:(e:Int)<(k.envs.length:Int):=by omega
          obtain ⟨be,oe,ce,ue,ev,hbe,_,gr,_⟩:=H.out.r.e.at hl3;simp only [Value.slice.injEq] at ev;obtain ⟨rfl,_,rfl⟩:=ev;clear hmo hio h12 hx1 h3 hx2 hkr HW;obtain ⟨c0,c1,c2,c3⟩:=H.out.x.c4;generalize (Kx.envAt k.envs e).root=r at gr HO hr11;have he3b:(e:Int)<3:=by omega
          have heb:decide ((e:Int)≥3)=false:=decide_eq_false (by omega);clear he0 he3
          by_cases hr0:r<0
          · have hn:Kx.reach k.mem r=[]:=by unfold Kx.reach;rw [if_pos hr0]
            rw [hn] at HO;obtain ⟨ao,co,ev⟩:=HO.out.val;have ev2:u=.slice ao 0 co:=ev;subst ev2;clear ev hn;go_wp2_with fail;go_ret;exact ⟨rfl,H.out.b⟩
          obtain ⟨R,rfl⟩:=Int.eq_ofNat_of_zero_le (show 0≤r by omega);have hR:R<12:=by omega
          clear hr0 hr11;go_wp2_with fail;clear gr hbe c0 c1 c2 c3 heb;obtain ⟨d,hd⟩:∃ d,w6.drew=d:=⟨_,rfl⟩;have Bd:Below w6.heap.size w6 d:=hd ▸ Below.drewB bR_;have Hd:=hI_ hd;clear hd;replace H:=hI_ (H.out.go Bd);replace HO:=hI_ (HO.out.below Bd);clear Bd;have BD:=hI_ (Below.refl d.heap.size d);have HK0:=hI_ (fun (V:World) (b:Below d.heap.size d V)=>(b.cell (p:=⟨g,0,none⟩) H.out.x.lt).trans (H.out.x.cell 0))
          refine wpL (S:=(fun U:World=>U.cell? ⟨g,0,none⟩=some (.slice a0 k.mem.length m0))) (xs:=[]) (by kernel_rfl) (by rw [Hd.out];exact HK0.out _ BD.out) (fun hHeld=>?_)
          rw [Hd.out];rw [Hd.out] at hHeld;clear Hd;refine tP 0 ?_;refine tP 2 ?_;refine tL 3 ?_;refine tP 4 ?_;refine tP 7 ?_;refine tL 8 ?_;refine tP 9 ?_;refine do2L 1 5 (by kernel_rfl) rfl rfl (fun K hK=>?dA1) (fun K hK=>?dB1)
          case' dA1 =>
            rw [if_pos (by rfl)];go_simp;have HR:=hI_ (show OS intC 1 3 (d.alloc (.cells #[.int .i64 (R:Int)] 3)) d.heap.size (.slice (some ⟨d.heap.size,0,none⟩) 1 1) [(R:Int)] from OS.lit (l:=[(R:Int)]) (f:=intC) (sz:=1) nR_ _ rfl rfl (by simp));have hbs0:=hI_ (BD.out.size);replace BD:=hI_ (BD.out.alloc BD.out.size (.cells #[.int .i64 (R:Int)] 3));obtain ⟨B0,hB0⟩:∃ b,d.heap.size=b:=⟨_,rfl⟩;obtain ⟨U,hU⟩:∃ V,d.alloc (.cells #[.int .i64 (R:Int)] 3)=V:=⟨_,rfl⟩;rw [hU,hB0] at HR
            try rw [hB0]
            have hbs:d.heap.size≤B0:=hB0 ▸ hbs0.out;clear hbs0;rw [hU] at BD
            try rw [hU]
            clear hU hB0;refine hK.out _ _ ?_ (fun hHeld=>?_)
            · exact HK0.out _ BD.out
            clear hK K;refine nL ?_;refine doL 5 (by kernel_rfl) rfl (fun K hK=>?_);rw [if_pos (by rfl)];go_simp;go_at_call 26;refine (WalkTables_c k.mem R _ U (H.out.r.m.below BD.out) Hmo.out hR).mono ?_;rintro en V1 ⟨u1,rfl,ho1,hb⟩;replace BD:=hI_ (BD.out.trans (hb.mono BD.out.size));have HT:=hI_ (show RS intC 1 V1 u1 (ofN (Kx.tables k.mem R)) from ho1.os.rs);replace HR:=hI_ (HR.out.below hb);clear hb ho1;refine hK.out _ _ ?_ (fun hHeld=>?_)
            · exact HK0.out _ BD.out
            clear hK K;refine nL ?_
          case' dB1 =>
            rw [if_pos (by rfl)];go_simp;go_at_call 26;refine (WalkTables_c k.mem R _ d (H.out.r.m.below BD.out) Hmo.out hR).mono ?_;rintro en V1 ⟨u1,rfl,ho1,hb⟩;replace BD:=hI_ (BD.out.trans (hb.mono BD.out.size));have HT:=hI_ (show RS intC 1 V1 u1 (ofN (Kx.tables k.mem R)) from ho1.os.rs);clear hb ho1;refine hK.out _ _ ?_ (fun hHeld=>?_)
            · exact HK0.out _ BD.out
            clear hK K;refine nL ?_;refine doL 1 (by kernel_rfl) rfl (fun K hK=>?_);rw [if_pos (by rfl)];go_simp;have HR:=hI_ (show OS intC 1 3 (V1.alloc (.cells #[.int .i64 (R:Int)] 3)) V1.heap.size (.slice (some ⟨V1.heap.size,0,none⟩) 1 1) [(R:Int)] from OS.lit (l:=[(R:Int)]) (f:=intC) (sz:=1) nR_ _ rfl rfl (by simp));have hbs0:=hI_ (BD.out.size);replace BD:=hI_ (BD.out.alloc BD.out.size (.cells #[.int .i64 (R:Int)] 3));obtain ⟨B0,hB0⟩:∃ b,V1.heap.size=b:=⟨_,rfl⟩;obtain ⟨U,hU⟩:∃ V,V1.alloc (.cells #[.int .i64 (R:Int)] 3)=V:=⟨_,rfl⟩;rw [hU,hB0] at HR
            try rw [hB0]
            have hbs:d.heap.size≤B0:=hB0 ▸ hbs0.out;clear hbs0;rw [hU] at BD
            try rw [hU]
            replace HT:=hI_ (RS.below HT.out (show Below V1.heap.size V1 U from hU ▸ bL_));clear hU hB0;refine hK.out _ _ ?_ (fun hHeld=>?_)
            · exact HK0.out _ BD.out
            clear hK K;refine nL ?_
          all_goals
            refine doL 6 (by kernel_rfl) rfl (fun K hK=>?_);refine step_appS tiInt rfl _ _ rfl B0 _ [(R:Int)] rfl HR.out _ (ofN (Kx.tables k.mem R)) rfl HT.out (by rw [ofN_length];have:=tabs_len k.mem R;simp;omega) (by have:=(HR.out.lt B0 rfl).2;omega) ?_;intro v2 V2 ho2 hg2 _;replace BD:=hI_ (Below.appS BD.out HR.out hg2 hbs BD.out.size);have HQ:=hI_ ho2;have hzq:=hI_ (show B0≤V2.heap.size from Nat.le_trans (by have:=(HR.out.lt B0 rfl).2;omega) hg2.size);clear ho2 hg2 HR HT;refine hK.out _ _ ?_ (fun hHeld=>?_)
            · exact HK0.out _ BD.out
            clear hK K;refine nL ?_;refine doL 10 (by kernel_rfl) rfl (fun K hK=>?_);rw [if_pos (by rfl)];go_simp;go_at_call 27;refine (WalkFrames_c k.mem R _ V2 (H.out.r.m.below BD.out) Hmo.out hR).mono ?_;rintro en V3 ⟨u3,rfl,ho3,hb⟩;replace BD:=hI_ (BD.out.trans (hb.mono BD.out.size));have HF:=hI_ (show RS intC 1 V3 u3 (ofN (Kx.framesR k.mem R)) from ho3.os.rs);replace HQ:=hI_ (HQ.out.below hb);have hzq3:=hI_ (Nat.le_trans hzq.out hb.size);clear hb ho3;refine hK.out _ _ ?_ (fun hHeld=>?_)
            · exact HK0.out _ BD.out
            clear hK K;refine nL ?_;refine doL 11 (by kernel_rfl) rfl (fun K hK=>?_);refine step_appS tiInt rfl _ _ rfl B0 _ ([(R:Int)] ++ ofN (Kx.tables k.mem R)) rfl HQ.out _ (ofN (Kx.framesR k.mem R)) rfl HF.out (by simp only [List.length_append,ofN_length];have:=tabs_len k.mem R;have:=(all_len k.mem R).2;simp;omega) hzq3.out ?_;intro v4 V4 ho4 hg4 _;replace BD:=hI_ (Below.appS BD.out HQ.out hg4 hbs BD.out.size)
            have HA := Lib.hid (show RI V4 v4 (ofN (allOf k.mem R)) from by have e : ofN (allOf k.mem R) = [(R : Int)] ++ ofN (Kx.tables k.mem R) ++ ofN (Kx.framesR k.mem R) := by (simp [allOf, ofN])
                                                                            rw [e];exact ho4.oi.ri)
            clear ho4 hg4 HQ HF hbs;refine hK.out _ _ ?_ (fun hHeld=>?_)
            · exact HK0.out _ BD.out
            clear hK K;refine nL ?_;refine tP 12 ?_;refine doneL (by kernel_rfl) ?_ _;replace H:=hI_ (H.out.go BD.out);replace HO:=hI_ (HO.out.below BD.out);obtain ⟨av,cv,ev⟩:=HA.out.val;rw [ofN_length] at ev;subst ev;obtain ⟨aw,cw,ev⟩:=HO.out.val;rw [ofN_length] at ev;subst ev;have hal:=(all_len k.mem R).1;have hrl:(Kx.reach k.mem (R:Int)).length≤1099511627776:=by have:=HO.out.1;rw [ofN_length] at this;exact this
            have Hmem:=hI_ (fun x=>all_reach (m:=k.mem) hR x)
            have Hasc:=hI_ (reach_asc k.mem (R:Int));clear BD hHeld;generalize allOf k.mem R=al at HA hal Hmem;generalize Kx.reach k.mem (R:Int)=rl at HO hrl Hmem Hasc
            try rw [show ((R:Int)<0)=False from by simp;omega]
            go_wp2_with fail;go_loopw [9] (fun i wr=>∃ j:Nat,i=.int .i64 j∧j≤al.length∧wr=V4) (fun i _=>al.length - (intOf i).toNat)
            case atStart=>exact ⟨0,rfl,Nat.zero_le _,rfl⟩
            case round =>
              obtain ⟨j,rfl,hj,rfl⟩:=hrel
              by_cases hlt:j<al.length
              · have hlI:(j:Int)<(al.length:Int):=by omega
                obtain ⟨bl,ol,cl,ev,hbl,hc⟩:=HA.out.at (k:=j) (by rw [ofN_length];exact hlt);rw [ofN_length] at ev;simp only [Value.slice.injEq] at ev;obtain ⟨rfl,_,rfl⟩:=ev;have hv:(ofN al)[j]'(by rw [ofN_length];exact hlt)=((al[j]:Nat):Int):=by simp [ofN]
                rw [hv] at hc;have Hin:=hI_ (show decide (((al[j]:Nat):Int) ∈ ofN rl)=true from decide_eq_true (mem_ofNn.2 ((Hmem.out _).2 (List.getElem_mem hlt))));generalize al[j]=x at hc Hin;clear hv hbl;go_wp2_with fail;refine (hasInt_c _ _ _ _ HO.out).mono ?_;rintro en U ⟨rfl,rfl⟩;rw [Hin.out];go_wp2_with fail;go_roundw
                case rel=>exact ⟨j+1,by go_num,by omega,trivial⟩
                case measure=>simp [intOf];omega
              obtain rfl:j=al.length:=by omega
              obtain ⟨wo,rfl⟩:∃ wo:World,wo=wr:=⟨_,rfl⟩;go_wp2_with fail;go_loopw [10] (fun i wx=>∃ j:Nat,i=.int .i64 j∧j≤rl.length∧wx=wo) (fun i _=>rl.length - (intOf i).toNat)
              case atStart=>exact ⟨0,rfl,Nat.zero_le _,rfl⟩
              case round =>
                obtain ⟨j,rfl,hj2,rfl⟩:=hrel
                by_cases hlt2:j<rl.length
                · have hlI:(j:Int)<(rl.length:Int):=by omega
                  obtain ⟨bl,ol,cl,ev,hbl,hc⟩:=HO.out.at (k:=j) (by rw [ofN_length];exact hlt2);rw [ofN_length] at ev;simp only [Value.slice.injEq] at ev;obtain ⟨rfl,_,rfl⟩:=ev;have hv:(ofN rl)[j]'(by rw [ofN_length];exact hlt2)=((rl[j]:Nat):Int):=by simp [ofN]
                  rw [hv] at hc;have Hin:=hI_ (show decide (((rl[j]:Nat):Int) ∈ ofN al)=true from decide_eq_true (mem_ofNn.2 ((Hmem.out _).1 (List.getElem_mem hlt2))));generalize rl[j]=x at hc Hin;clear hv hbl;go_wp2_with fail;refine (hasInt_c _ _ _ _ HA.out).mono ?_;rintro en U ⟨rfl,rfl⟩;rw [Hin.out];go_wp2_with fail;go_roundw
                  case rel=>exact ⟨j+1,by go_num,by omega,trivial⟩
                  case measure=>simp [intOf];omega
                obtain rfl:j=rl.length:=by omega
                go_wp2_with fail;refine (ascends_c _ _ _ HO.out Hasc.out).mono ?_;rintro en w9 ⟨rfl,hb⟩;have HB:=hI_ (H.out.go hb).b;go_wp2_with fail;go_ret;exact ⟨rfl,HB.out⟩
    all_goals
      clear hok;go_wp2_with fail;refine (sameInts_c _ _ _ _ _ HO.out HW.out).mono ?_;rintro en w9 ⟨rfl,hb⟩;rw [decide_eq_true rfl];have HB:=hI_ (H.out.go hb).b;go_wp2_with fail;go_ret;exact ⟨rfl,HB.out⟩
  have hI0:(1048576:Int)<(len0:Int):=by omega
  clear h0;go_enter Tryz.func9,Tryz.ntmps9;go_wp2_with fail;go_ret;exact ⟨rfl,Below.refl _ _⟩
end Go.Proofs.YtenebmeaoidnoaaGreatDoor
