/- Contracts: what the laws call of the program: Walk, TableCount, TableOk, RightsMay, KernelReach, WalkTables, WalkFrames, MemoryGet. -/
import Derived.Test.YtenebmeaoidnoaaGreatDoorKI12
import Derived.Test.YtenebmeaoidnoaaGreatDoorKC13
namespace Go.Proofs.YtenebmeaoidnoaaGreatDoor
open Go.RowKit
theorem tabs_lt {m:List (List Int)} {r:Nat}:∀ f ∈ Kx.tables m r,f<12:=fun f hf=>by unfold Kx.tables at hf;exact (Kx.mem_sortedF.1 hf).1
theorem tabs_len (m:List (List Int)) (r:Nat):(Kx.tables m r).length≤12:=by unfold Kx.tables Kx.sortedF;exact Nat.le_trans (List.length_filter_le _ _) (by simp)
set_option maxHeartbeats 2000000 in
theorem WalkTables_c (m:List (List Int)) (root:Nat) (v:Value) (w:World) (h:RM w v m) (hm:Kx.memOk m=true) (hr:root<12) :
    Calls Tryz.prog 26 #[v,.int .i64 root] w (MadeI w (ofN (Kx.tables m root))):=by
  have HM:=hI_ h;have Hm:=hI_ hm;have HfI:=hI_ (show Kx.inR (root:Int) 0 11=true from Kx.inR_true.2 (by omega));have HE:=hI_ (show Kx.sortedF ([root].flatMap fun f=>Kx.namedW (Kx.row m f))=Kx.tables m root by simp [Kx.tables])
  clear h hm;go_enter Tryz.func26,Tryz.ntmps26;go_wp2_with fail;refine (implMemoryValid_c m _ _ HM.out).mono ?_;rintro e w1 ⟨rfl,hb⟩;rw [Hm.out];have B0:=hI_ hb;clear hb;go_wp2_with fail;refine (isFrame_c _ _).mono ?_;rintro e w' ⟨rfl,rfl⟩;rw [HfI.out];have HB:=hI_ (show Below w1.heap.size w1 (w1.alloc (.cells #[.int .i64 root] 3)) from bL_);have HL:=hI_ (show RI (w1.alloc (.cells #[.int .i64 root] 3)) (.slice (some ⟨w1.heap.size,0,none⟩) 1 1) (ofN [root]) from RI.rs (RS.one (f:=intC) (sz:=1) (root:Int) #[.int .i64 root] rfl w1 _));have HC:=hI_ (named_c m [root] v _ _ ((HM.out.below B0.out).below HB.out) Hm.out HL.out (by simpa using hr) (by simp));replace B0:=hI_ (B0.out.trans (HB.out.mono B0.out.size));obtain ⟨w2,hw2⟩:∃ V,w1.alloc (.cells #[.int .i64 root] 3)=V:=⟨_,rfl⟩;rw [hw2] at HC B0;clear HL HB;go_wp2_with fail;clear hw2;refine HC.out.mono ?_;rintro e w3 ⟨u,rfl,ho,hb⟩
  rw [HE.out] at ho;have Ho:=hI_ (ho.mono B0.out.size);replace B0:=hI_ (B0.out.trans (hb.mono B0.out.size));clear hb ho HC;go_wp2_with fail;go_ret;exact ⟨_,rfl,Ho.out,B0.out⟩
set_option maxHeartbeats 2000000 in
theorem WalkFrames_c (m:List (List Int)) (root:Nat) (v:Value) (w:World) (h:RM w v m) (hm:Kx.memOk m=true) (hr:root<12) :
    Calls Tryz.prog 27 #[v,.int .i64 root] w (MadeI w (ofN (Kx.framesR m root))):=by
  have HM:=hI_ h;have Hm:=hI_ hm;have HE:=hI_ (show Kx.sortedF ((Kx.tables m root).flatMap fun f=>Kx.namedW (Kx.row m f))=Kx.framesR m root from rfl)
  clear h hm;go_enter Tryz.func27,Tryz.ntmps27;go_wp2_with fail;refine (WalkTables_c m root _ _ HM.out Hm.out hr).mono ?_;rintro e w1 ⟨u,rfl,ho,hb⟩;have B0:=hI_ hb;have HC:=hI_ (named_c m (Kx.tables m root) v u w1 (HM.out.below B0.out) Hm.out ho.ri tabs_lt (tabs_len m root));clear hb ho;go_wp2_with fail;refine HC.out.mono ?_;rintro e w3 ⟨u2,rfl,ho,hb⟩;rw [HE.out] at ho;have Ho:=hI_ (ho.mono B0.out.size);replace B0:=hI_ (B0.out.trans (hb.mono B0.out.size));clear hb ho HC;go_wp2_with fail;go_ret;exact ⟨_,rfl,Ho.out,B0.out⟩
set_option maxHeartbeats 2000000 in
set_option maxRecDepth 100000 in
theorem implKernelReach_c (k:Kx.Kernel) (env:Int) (vm vi ve vc:Value) (w:World) (h:RK w vm vi ve vc k) (hs:SaneK k) :
    Calls Tryz.prog 16 #[.agg #[vm,vi,ve,vc],.int .i64 env] w (MadeI w (ofN (kreach k env))):=by
  obtain ⟨w0,hw0⟩:∃ w0,w.alloc (.cells #[vm,vi,ve,vc] 28)=w0:=⟨_,rfl⟩;have B0:=hI_ (show Below w.heap.size w w0 from hw0 ▸ bL_);have X0:=hI_ (show BX w0 w.heap.size 28 [vm,vi,ve,vc] from (hw0 ▸ BX.new w _ _:BX w0 _ _ _));have HK:=hI_ (h.below B0.out);obtain ⟨_,ae,ce,rfl,_,_⟩:=h.e.len;have HV:=hI_ (show kreach k env=if !Kx.kernelOk k||!Kx.inR env 0 2 then [] else Kx.reach k.mem (Kx.envAt k.envs env.toNat).root from rfl);have HC:=hI_ (implKernelValid_c k vm vi _ vc w0 HK.out hs);have Hno:=hI_ (show ∀ W,Below w.heap.size w W→kreach k env=[]→MadeI w (ofN (kreach k env)) (.returned (.slice none 0 0)) W from fun W hb e=>⟨_,rfl,by rw [e];exact ⟨World.ownsRow_nil _ _ _ _,by decide⟩,hb⟩)
  obtain ⟨k0,k1,k2,k3⟩:=X0.out.c4;clear h hs;go_enter Tryz.func16,Tryz.ntmps16;go_wp2_with fail;clear hw0;refine HC.out.mono ?_;rintro e w1 ⟨rfl,hb⟩;replace B0:=hI_ (B0.out.trans (hb.mono B0.out.size));replace X0:=hI_ (X0.out.below hb);replace HK:=hI_ (HK.out.below hb);clear hb HC k0 k1 k2 k3
  cases hv:Kx.kernelOk k with
  | false =>
    have HF:=hI_ (Hno.out w1 B0.out (by rw [HV.out,hv];rfl));clear hv HV Hno;go_wp2_with fail;go_ret;exact HF.out
  | true =>
    have V1:=hI_ hv;clear hv;go_wp2_with fail;refine (isEnv_c _ _).mono ?_;rintro e w' ⟨rfl,rfl⟩
    cases hv:Kx.inR env 0 2 with
    | false =>
      have HF:=hI_ (Hno.out w1 B0.out (by rw [HV.out,hv];simp));clear hv HV Hno;go_wp2_with fail;go_ret;exact HF.out
    | true =>
      obtain ⟨h0,h2⟩:=Kx.inR_true.1 hv;obtain ⟨a,rfl⟩:=Int.eq_ofNat_of_zero_le h0;obtain ⟨hmo,hio,h12,hco,h3,hro⟩:=kernelOk_parts V1.out;have ha3:a<3:=by omega
      have Hro:=hI_ (hro a ha3);have HF:=hI_ (show kreach k a=Kx.reach k.mem (Kx.envAt k.envs a).root by rw [HV.out,V1.out,hv];simp);have haI:(a:Int)<(k.envs.length:Int):=by omega
      obtain ⟨b,off,cap,u,ev,hbb,_,g2,_⟩:=HK.out.e.at (k:=a) (by omega);simp only [Value.slice.injEq] at ev;obtain ⟨rfl,_,rfl⟩:=ev;obtain ⟨k0,k1,k2,k3⟩:=X0.out.c4;have HM:=hI_ HK.out.m;have Hmo:=hI_ hmo;clear hv HV Hno h0 hbb hmo hio h12 hco h3 hro ha3;generalize (Kx.envAt k.envs a).root=r at g2 HF Hro;go_wp2_with fail;go_still_tail 8,(by kernel_rfl)
      change wpList _ _ _ _ _ w1.drew;have Bd:Below w1.heap.size w1 w1.drew:=Below.drewB bR_;obtain ⟨d,hd⟩:∃ d,w1.drew=d:=⟨_,rfl⟩;rw [hd] at Bd ⊢;replace B0:=hI_ (B0.out.trans (Bd.mono B0.out.size));replace HM:=hI_ (HM.out.below Bd);clear hd Bd k0 k1 k2 k3 g2;go_wp2_with fail;refine (reached_c k.mem r _ _ HM.out Hmo.out Hro.out).mono ?_;rintro e w3 ⟨u3,rfl,ho,hb⟩;rw [←HF.out] at ho;have Ho:=hI_ (ho.mono B0.out.size);replace B0:=hI_ (B0.out.trans (hb.mono B0.out.size));clear hb ho;go_wp2_with fail;go_ret;exact ⟨_,rfl,Ho.out,B0.out⟩
end Go.Proofs.YtenebmeaoidnoaaGreatDoor
