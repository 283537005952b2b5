/- Contracts: a number in a list, a list that ascends (the laws' own). -/
import Derived.Test.YtenebmeaoidnoaaGreatDoorKWb
namespace Go.Proofs.YtenebmeaoidnoaaGreatDoor
open Go.RowKit
set_option maxHeartbeats 400000 in
theorem hasInt_c (xs:List Int) (p:Int) (v:Value) (w:World) (h:RI w v xs) :
    Calls Tryz.prog 28 #[v,.int .i64 p] w fun e w'=>e=.returned (.bool (decide (p ∈ xs)))∧w=w':=by
  obtain ⟨a,cap,rfl⟩:=h.val;have hl:=h.1;have H:=hI_ h;clear h;go_enter Tryz.func28,Tryz.ntmps28;go_wp2_with fail;go_loop [5] (fun i=>∃ k:Nat,i=.int .i64 k∧k≤xs.length∧Hid (p ∉ xs.take k)) (fun i=>xs.length - (intOf i).toNat)
  case atStart=>exact ⟨0,rfl,Nat.zero_le _,by simp [Hid]⟩
  case round =>
    obtain ⟨k,rfl,hk,hn⟩:=hrel
    by_cases hlt:k<xs.length
    · obtain ⟨b,off,cap',e,_,hc⟩:=H.out.at hlt;simp only [Value.slice.injEq] at e;obtain ⟨rfl,_,rfl⟩:=e;have hlI:(k:Int)<(xs.length:Int):=by omega
      have hit:Hid (xs[k]=p→p ∈ xs):=fun h=>h ▸ List.getElem_mem hlt
      have miss:Hid (xs[k]≠p→p ∉ xs.take (k+1)):=fun h=>by
        rw [List.take_succ_eq_append_getElem hlt];simp only [List.mem_append,List.mem_singleton,not_or];exact ⟨hn.out,fun e=>h e.symm⟩
      generalize xs[k]=x at hc hit miss
      by_cases hx:x=p
      · have Hit:=hI_ (hit.out hx);have hb:(x==p)=true:=by simpa using hx
        clear hit miss hx;go_wp2_with fail;go_ret;exact ⟨ret_bool (by simp [Hit.out]),rfl⟩
      have Miss:=hI_ (miss.out hx);have hb:(x==p)=false:=by simpa using hx
      clear hit miss hx;go_wp2_with fail;go_round
      case rel=>exact ⟨k+1,by go_num,by omega,Miss.out⟩
      case measure=>simp [intOf];omega
    go_wp2_with fail;go_ret;have:=hn.out;rw [List.take_of_length_le (by omega)] at this;exact ⟨ret_bool (by simp [this]),rfl⟩
set_option maxHeartbeats 400000 in
theorem ascends_c (xs:List Int) (v:Value) (w:World) (h:RI w v xs) (hs:xs.Pairwise (· < ·)) :
    Calls Tryz.prog 29 #[v] w fun e w'=>e=.returned (.bool true)∧Below w.heap.size w w':=by
  obtain ⟨a,cap,rfl⟩:=h.val;have hl:=h.1;have H:=hI_ h;have Hs:=hI_ hs;clear h hs;go_enter Tryz.func29,Tryz.ntmps29;go_wp2_with fail;go_loopw [3] (fun i wr=>∃ k:Nat,i=.int .i64 ((k:Int)+1)∧k≤xs.length∧Hid (Below w.heap.size w wr)) (fun i _=>xs.length+1 - (intOf i).toNat)
  case atStart=>exact ⟨0,by go_num,Nat.zero_le _,hI_ bR_⟩
  case round =>
    obtain ⟨k,rfl,hk,hb⟩:=hrel
    by_cases hlt:k+1<xs.length
    · obtain ⟨b,off,cap',e,_,hc⟩:=(H.out.below hb.out).at (k:=k) (by omega);simp only [Value.slice.injEq] at e;obtain ⟨rfl,_,rfl⟩:=e;obtain ⟨b',off',cap'',e,_,hc'⟩:=(H.out.below hb.out).at (k:=k+1) hlt;simp only [Value.slice.injEq,Option.some.injEq,Addr.mk.injEq] at e;obtain ⟨⟨rfl,rfl,_⟩,_,rfl⟩:=e;have hxy:=List.pairwise_iff_getElem.1 Hs.out k (k+1) (by omega) hlt (by omega);have hlI:(k:Int)+1<(xs.length:Int):=by omega
      obtain ⟨m,hm⟩:∃ m:Nat,k+1=m:=⟨_,rfl⟩;have hmI:(k:Int)+1=(m:Int):=by omega
      generalize xs[k]=x at hc hxy;generalize xs[k+1]=y at hc' hxy;have hw1:IntKind.i64.wrap ((m:Int) - 1)=(k:Int):=by rw [show (m:Int) - 1=(k:Int) by omega];exact IntWalk.i64_in _ (by omega)
      have hxb:decide (y≤x)=false:=decide_eq_false (by omega);rw [hm] at hc';rw [hmI];have hmlI:(m:Int)<(xs.length:Int):=by omega
      have hkl:k<xs.length:=by omega
      have hml:m<xs.length:=by omega
      clear hlI hlt;have Hm:=hI_ hm;have HmI:=hI_ hmI;clear hm hmI;go_wp2_with fail;go_quiet (fail);go_wp2_with fail;go_roundw
      case rel=>exact ⟨m,by go_num,by omega,hI_ (hb.out.trans (⟨rfl,rfl,rfl,Nat.le_refl _,fun _ _=>rfl⟩))⟩
      case measure=>have:=Hm.out;simp [intOf];omega
    have hlI:¬ (k:Int)+1<(xs.length:Int):=by omega
    go_wp2_with fail;go_ret;exact ⟨rfl,hb.out⟩
set_option maxHeartbeats 2000000 in
theorem specKernelReach_c (k:Kx.Kernel) (env:Int) (vm vi ve vc:Value) (w:World) (h:RK w vm vi ve vc k) (hs:SaneK k) :
    Calls Tryz.prog 24 #[.agg #[vm,vi,ve,vc],.int .i64 env] w (MadeI w (ofN (kreach k env))):=by
  obtain ⟨w0,hw0⟩:∃ w0,w.alloc (.cells #[vm,vi,ve,vc] 28)=w0:=⟨_,rfl⟩;have Hw0:=hI_ (show Below w.heap.size w w0 from hw0 ▸ (Below.refl w.heap.size w).alloc nR_ _);have Hbx:=hI_ (show Box4 w0 w.heap.size vm vi ve vc from hw0 ▸ Box4.new w vm vi ve vc _);have HK:=hI_ (h.below Hw0.out);obtain ⟨_,ae,ce,rfl,_,_⟩:=h.e.len;have HV:=hI_ (show kreach k env=if !Kx.kernelOk k||!Kx.inR env 0 2 then [] else Kx.reach k.mem (Kx.envAt k.envs env.toNat).root from rfl);have HC:=hI_ (specKernelValid_c k vm vi _ vc w0 HK.out hs);obtain ⟨k0,k1,k2,k3,_⟩:=Hbx.out;clear h hs;go_enter Tryz.func24,Tryz.ntmps24;go_wp2_with fail;clear hw0;refine HC.out.mono ?_;rintro e w1 ⟨rfl,hb1⟩;have B1:=hI_ hb1;clear hb1 HC k0 k1 k2 k3
  have Hno:=hI_ (show kreach k env=[]→MadeI w (ofN (kreach k env)) (.returned (.slice (some ⟨w1.heap.size,0,none⟩) 0 0)) (w1.alloc (.cells #[] 3)) from fun e=>⟨_,rfl,by rw [e];exact (OI.lit0 nR_).mono (Nat.le_trans Hw0.out.size B1.out.size),(Hw0.out.trans (B1.out.mono Hw0.out.size)).alloc (Nat.le_trans Hw0.out.size B1.out.size) _⟩)
  cases hv:Kx.kernelOk k with
  | false =>
    have HF:=hI_ (Hno.out (by rw [HV.out,hv];rfl));clear hv HV Hno;go_wp2_with fail;go_ret;exact HF.out
  | true =>
    have V1:=hI_ hv;clear hv;go_wp2_with fail;refine (l4Env_c _ _).mono ?_;rintro e w' ⟨rfl,rfl⟩
    cases hv:Kx.inR env 0 2 with
    | false =>
      have HF:=hI_ (Hno.out (by rw [HV.out,hv];simp));clear hv HV Hno;go_wp2_with fail;go_ret;exact HF.out
    | true =>
      obtain ⟨h0,h2⟩:=Kx.inR_true.1 hv;obtain ⟨a,rfl⟩:=Int.eq_ofNat_of_zero_le h0;have Hm:=hI_ (show Kx.memOk k.mem=true from by have:=V1.out;unfold Kx.kernelOk at this;simp only [Bool.and_eq_true] at this;exact this.1.1.1.1.1.1);have HEo:=hI_ (show Kx.envsOk k=true from by have:=V1.out;unfold Kx.kernelOk at this;simp only [Bool.and_eq_true] at this;exact this.1.1.1.2);have He:=hI_ (show k.envs.length=3 from by have:=HEo.out;unfold Kx.envsOk at this;simp only [Bool.and_eq_true] at this;simpa using this.2);have Hro:=hI_ (show (Kx.envAt k.envs a).root≤11 from by
        have:=HEo.out
        unfold Kx.envsOk at this;rw [eOk_all] at this;simp only [Bool.and_eq_true,List.all_eq_true] at this;have h2:=this.1 a (by rw [He.out];simp;omega);unfold eOk Kx.envOk at h2;simp only [Bool.and_eq_true] at h2;exact (Kx.inR_true.1 h2.1.1.2).2)
      have HF:=hI_ (show kreach k a=Kx.reach k.mem (Kx.envAt k.envs a).root by rw [HV.out,V1.out,hv];simp);have ha3:a<k.envs.length:=by rw [He.out];omega
      have haI:(a:Int)<(k.envs.length:Int):=by omega
      obtain ⟨b,off,cap,u,ev,hbb,_,g2,_⟩:=(HK.out.e.below B1.out).at ha3;simp only [Value.slice.injEq] at ev;obtain ⟨rfl,_,rfl⟩:=ev;obtain ⟨k0,k1,k2,k3,_⟩:=Hbx.out.below B1.out;have HM:=hI_ (HK.out.m.below B1.out);have Hin:=hI_ (show w.heap.size<w1.heap.size∧b<w1.heap.size from ⟨(Hbx.out.below B1.out).2.2.2.2,hbb⟩);clear hv HV Hno h0 hbb;generalize (Kx.envAt k.envs a).root=r at g2 HF Hro;go_wp2_with fail;refine wp_region_held_drew (S:=(fun wz=>wz.cell? ⟨w.heap.size,0,none⟩=some vm∧wz.cell? ⟨w.heap.size,2,none⟩=some (.slice (some ⟨b,off,none⟩) k.envs.length ce)∧wz.cell? ⟨b,off+a*2+1,none⟩=some (.int .i64 r))) (by kernel_rfl) (by first | assumption | (exact ⟨(hb4.cell (p:=⟨w.heap.size,0,none⟩) Hin.out.1).trans k0,(hb4.cell (p:=⟨w.heap.size,2,none⟩) Hin.out.1).trans k2,(hb4.cell (p:=⟨b,off+a*2+1,none⟩) Hin.out.2).trans g2⟩) | go_keep) (fun hHeld=>?_)
      refine tH 0 ?_;refine tH 1 ?_;refine tH 2 ?_;refine tH 3 ?_;refine tH 4 ?_;refine tH 5 ?_;refine tH 6 ?_;refine tH 7 ?_;refine rH 8 (fun K hK=>?_)
      (rw [if_pos (by rfl)];go_simp;go_at_call 60;refine (l21Reach_c k.mem r vm w1.drew (show RM w1.drew _ _ from HM.out) Hm.out Hro.out).mono ?_;rintro e w3 ⟨u3,rfl,ho3,hb3⟩;have hb4:=Below.undrew hb3;have Ho3:=hI_ ho3;clear ho3;go_wp2_with fail)
      refine hK.out _ _ ?_ (fun hHeld=>?_)
      · first | assumption | (exact ⟨(hb4.cell (p:=⟨w.heap.size,0,none⟩) Hin.out.1).trans k0,(hb4.cell (p:=⟨w.heap.size,2,none⟩) Hin.out.1).trans k2,(hb4.cell (p:=⟨b,off+a*2+1,none⟩) Hin.out.2).trans g2⟩) | go_keep
      clear hK K;refine nH ?_;refine tH 9 ?_;refine wpAnyH_done (by kernel_rfl) ?_ _;have Hb5:=hI_ (Hw0.out.trans ((B1.out.trans (hb4.mono B1.out.size)).mono Hw0.out.size));go_wp2_with fail;go_ret;exact ⟨_,rfl,by rw [HF.out];exact Ho3.out.mono (Nat.le_trans Hw0.out.size B1.out.size),Hb5.out⟩
end Go.Proofs.YtenebmeaoidnoaaGreatDoor
