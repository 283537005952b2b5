/- Contracts: the impl's side: KernelValid. (printed by ki12.py) -/
import Derived.Test.YtenebmeaoidnoaaGreatDoorKIc
import Derived.Test.YtenebmeaoidnoaaGreatDoorKR
import Derived.Test.YtenebmeaoidnoaaGreatDoorKY
namespace Go.Proofs.YtenebmeaoidnoaaGreatDoor
open Go.RowKit
/-- uses by tables and by the first q environments -/
def RF (k:Kx.Kernel) (q g:Nat):Nat:=Kx.countT k.mem k.infos g+Kx.rootsN (k.envs.take q) g
theorem RF_zero (k:Kx.Kernel):tab12 (RF k 0)=Kx.counts k.mem k.infos:=by
  unfold tab12 Kx.counts RF Kx.rootsN;simp
theorem RF_step (k:Kx.Kernel) (q g:Nat) (h:q<k.envs.length):RF k (q+1) g=RF k q g+if (Kx.envAt k.envs q).root=(g:Int) then 1 else 0:=by
  unfold RF Kx.rootsN;have e:Kx.envAt k.envs q=k.envs[q]:=by simp [Kx.envAt,h]
  rw [List.take_succ_eq_append_getElem h,List.countP_append,e,List.countP_singleton]
  by_cases hr:k.envs[q].root=(g:Int)
  · simp [hr];omega
  · simp [hr]
theorem RF_all (k:Kx.Kernel) (g:Nat) (h:k.envs.length=3):RF k 3 g=Kx.countT k.mem k.infos g+Kx.rootsN k.envs g:=by
  unfold RF;rw [List.take_of_length_le (by omega)]
theorem RF_le (k:Kx.Kernel) (hm:Kx.memOk k.mem=true) (q g:Nat):RF k q g≤48+q:=by
  have h1:=cnt_le k.mem k.infos (fun f hf=>(mem_row hm hf).2.1) 12 0 g nR_
  have h2:cnt k.mem k.infos 12 0 g=Kx.countT k.mem k.infos g:=by rw [Kx.countT_eq];unfold cnt;simp
  have h3:Kx.rootsN (k.envs.take q) g≤q:=Nat.le_trans List.countP_le_length (List.length_take_le _ _);unfold RF;omega
/-- what is asked of the f-th frame -/
def fOk (k:Kx.Kernel) (f:Nat):Bool:=(!Kx.isTab (Kx.inf k.infos f).kind||Kx.rowOk k.mem k.infos f (Kx.inf k.infos f).kind [ByteArray.empty])&&(Kx.inf k.infos f).refs==((Kx.countT k.mem k.infos f+Kx.rootsN k.envs f:Nat):Int)
theorem fOk_all (k:Kx.Kernel):(Kx.tabsOk k&&Kx.refsOk k)=(List.range 12).all (fOk k):=by
  unfold Kx.tabsOk Kx.refsOk fOk;rw [Bool.eq_iff_iff,Bool.and_eq_true,List.all_eq_true,List.all_eq_true,List.all_eq_true];exact ⟨fun h f hf=>by rw [Bool.and_eq_true];exact ⟨h.1 f hf,h.2 f hf⟩,fun h=>⟨fun f hf=>(Bool.and_eq_true _ _ ▸ h f hf).1,fun f hf=>(Bool.and_eq_true _ _ ▸ h f hf).2⟩⟩
theorem kernelOk_eq (k:Kx.Kernel):Kx.kernelOk k=(Kx.memOk k.mem&&Kx.infosOk k.infos&&Kx.cacheOk k.cache&&Kx.envsOk k&&(List.range 12).all (fOk k)&&Kx.cacheTrue k):=by
  rw [←fOk_all];unfold Kx.kernelOk;simp only [Bool.and_assoc]
theorem KF1 {k:Kx.Kernel} {q:Nat} (hq:q<k.envs.length) (h:eOk k q=false):Kx.kernelOk k=false:=by
  have:Kx.envsOk k=false:=by
    unfold Kx.envsOk;rw [eOk_all,Bool.and_eq_false_iff,List.all_eq_false];exact .inl ⟨q,by simpa using hq,by rw [h];simp⟩
  rw [kernelOk_eq,this];simp
theorem KF2 {k:Kx.Kernel} {f:Nat} (hf:f<12) (h:fOk k f=false):Kx.kernelOk k=false:=by
  have:(List.range 12).all (fOk k)=false:=by
    rw [List.all_eq_false];exact ⟨f,by simpa using hf,by rw [h];simp⟩
  rw [kernelOk_eq,this];simp
theorem KF3 {k:Kx.Kernel} {q:Nat} (hq:q<k.cache.length) (h:tOk k q=false):Kx.kernelOk k=false:=by
  have:Kx.cacheTrue k=false:=by
    rw [tOk_all,List.all_eq_false];exact ⟨q,by simpa using hq,by rw [h];simp⟩
  rw [kernelOk_eq,this];simp
theorem KT {k:Kx.Kernel} (h1:Kx.memOk k.mem=true) (h2:Kx.infosOk k.infos=true) (h3:Kx.cacheOk k.cache=true) (h4:k.envs.length=3) (h5:∀ j,j<3→eOk k j=true) (h6:∀ j,j<12→fOk k j=true) (h7:∀ j,j<k.cache.length→tOk k j=true):Kx.kernelOk k=true:=by
  have e1:Kx.envsOk k=true:=by
    unfold Kx.envsOk;rw [eOk_all,Bool.and_eq_true,List.all_eq_true,h4];exact ⟨fun j hj=>h5 j (by simpa using hj),by simp⟩
  have e2:(List.range 12).all (fOk k)=true:=by rw [List.all_eq_true];exact fun j hj=>h6 j (by simpa using hj)
  have e3:Kx.cacheTrue k=true:=by rw [tOk_all,List.all_eq_true];exact fun j hj=>h7 j (by simpa using hj)
  rw [kernelOk_eq,h1,h2,h3,e1,e2,e3];rfl
set_option maxRecDepth 100000 in
set_option maxHeartbeats 8000000 in
theorem implKernelValid_c (k:Kx.Kernel) (vm vi ve vc:Value) (w:World) (h:RK w vm vi ve vc k) (hs:SaneK k) :
    Calls Tryz.prog 12 #[.agg #[vm,vi,ve,vc]] w fun e w'=>e=.returned (.bool (Kx.kernelOk k))∧Below w.heap.size w w':=by
  obtain ⟨w0,hw0⟩:∃ w0,w.alloc (.cells #[vm,vi,ve,vc] 28)=w0:=⟨_,rfl⟩;have Hw0:=hI_ (show Below w.heap.size w w0 from hw0 ▸ (Below.refl w.heap.size w).alloc nR_ _);have Hbx:=hI_ (show Box4 w0 w.heap.size vm vi ve vc from hw0 ▸ Box4.new w vm vi ve vc _);have HK:=hI_ (h.below Hw0.out);have Hs:=hI_ hs;have HV:=hI_ (kernelOk_eq k);obtain ⟨hel,ae,ce,rfl,_,_⟩:=h.e.len;obtain ⟨ac,cc,rfl,_,_⟩:=RS.val h.c;obtain ⟨ai,ci,rfl,_,_⟩:=RS.val h.i;obtain ⟨_,am,cm,rfl,_,_⟩:=h.m.len;have hcl:=h.c.1;obtain ⟨k0,k1,k2,k3,hbl⟩:=Hbx.out;clear h hs hbl;go_enter Tryz.func12,Tryz.ntmps12;go_wp2_with fail;clear hw0;refine (implMemoryValid_c k.mem _ _ HK.out.m).mono ?_;rintro e w1 ⟨rfl,hb1⟩;have B1:=hI_ hb1;clear hb1;obtain ⟨a0,a1,a2,a3,_⟩:=Hbx.out.below B1.out;clear k0 k1 k2 k3
  cases hm:Kx.memOk k.mem
  · have HF:=hI_ (show Kx.kernelOk k=false by rw [HV.out,hm];rfl);clear hm HV;go_wp2_with fail;go_ret;exact ⟨ret_bool HF.out.symm,Hw0.out.trans (B1.out.mono Hw0.out.size)⟩
  have Hm:=hI_ hm;clear hm;go_wp2_with fail;refine (implInfosValid_c k.infos _ _ (RS.below HK.out.i B1.out) Hs.out.1).mono ?_;rintro e w2 ⟨rfl,hb2⟩;have B2:=hI_ (B1.out.trans (hb2.mono B1.out.size));clear hb2;obtain ⟨k0,k1,k2,k3,_⟩:=Hbx.out.below B2.out;clear a0 a1 a2 a3
  cases hm:Kx.infosOk k.infos
  · have HF:=hI_ (show Kx.kernelOk k=false by rw [HV.out,hm];simp);clear hm HV;go_wp2_with fail;go_ret;exact ⟨ret_bool HF.out.symm,Hw0.out.trans (B2.out.mono Hw0.out.size)⟩
  have Hi:=hI_ hm;clear hm;have Hil:=hI_ (show k.infos.length=12 by have:=Hi.out;unfold Kx.infosOk at this;simp only [Bool.and_eq_true] at this;simpa using this.2);go_wp2_with fail;refine (implCacheValid_c k.cache _ _ (RS.below HK.out.c B2.out)).mono ?_;rintro e w3 ⟨rfl,hb3⟩;have B3:=hI_ (B2.out.trans (hb3.mono B2.out.size));clear hb3;obtain ⟨a0,a1,a2,a3,_⟩:=Hbx.out.below B3.out;clear k0 k1 k2 k3
  cases hm:Kx.cacheOk k.cache
  · have HF:=hI_ (show Kx.kernelOk k=false by rw [HV.out,hm];simp);clear hm HV;go_wp2_with fail;go_ret;exact ⟨ret_bool HF.out.symm,Hw0.out.trans (B3.out.mono Hw0.out.size)⟩
  have Hco:=hI_ hm;clear hm
  by_cases h3:k.envs.length=3
  rotate_left
  · have HF:=hI_ (show Kx.kernelOk k=false by rw [HV.out];unfold Kx.envsOk;simp [h3]);have hne:((k.envs.length:Int) != 3)=true:=by rw [bne_iff_ne];omega
    clear h3 HV;go_wp2_with fail;go_ret;exact ⟨ret_bool HF.out.symm,Hw0.out.trans (B3.out.mono Hw0.out.size)⟩
  have hne:((k.envs.length:Int) != 3)=false:=by rw [bne_eq_false_iff_eq];omega
  have Hen:=hI_ h3;clear h3;go_wp2_with fail;refine (counted_c k.mem k.infos _ _ _ (HK.out.m.below B3.out) Hm.out (RS.below HK.out.i B3.out) Hil.out).mono ?_;rintro e w4 ⟨u4,rfl,ho4,hb4⟩;have B4:=hI_ (B3.out.trans (hb4.mono B3.out.size));have ho4':=ho4.mono B3.out.size;rw [←RF_zero] at ho4';obtain ⟨g,capr,rfl,hg,_,_⟩:=ho4'.at (k:=0) (by rw [tab12_length];omega);rw [tab12_length] at ho4' ⊢;have Ho4:=hI_ ho4'.os;have Hg:=hI_ hg;clear ho4 ho4' hb4 hg;obtain ⟨k0,k1,k2,k3,_⟩:=Hbx.out.below B4.out;clear a0 a1 a2 a3 HV;go_wp2_with fail;go_loopw [43] (fun i wr=>∃ q:Nat,i=.int .i64 q∧q≤k.envs.length∧Hid (∀ j,j<q→eOk k j=true)∧Hid (OS intC 1 3 wr w0.heap.size (.slice (some ⟨g,0,none⟩) 12 capr) (tab12 (RF k q)))∧Hid (Below w0.heap.size w0 wr)) (fun i _=>k.envs.length - (intOf i).toNat)
  case atStart=>exact ⟨0,rfl,Nat.zero_le _,fun j hj=>absurd hj (Nat.not_lt_zero _),Ho4.out,B4.out⟩
  case round =>
    clear k0 k1 k2 k3 Ho4 B4 B3 B2 B1;obtain ⟨q,rfl,hq,hall,ho,hb⟩:=hrel
    by_cases hlt:q<k.envs.length
    · obtain ⟨b,off,cap,u,ev,hbb,h1,h2,hR⟩:=(HK.out.e.below hb.out).at hlt;simp only [Value.slice.injEq] at ev;obtain ⟨rfl,_,rfl⟩:=ev;have hlI:(q:Int)<(k.envs.length:Int):=by omega
      have hq3:q<3:=by have:=Hen.out;omega
      have HR:=hI_ hR;have Hsz:=hI_ (Hs.out.2 q hlt);have HB:=hI_ (show eOk k q=false→Kx.kernelOk k=false from fun h=>KF1 hlt h);have HN:=hI_ (show eOk k q=true→∀ j,j<q+1→eOk k j=true from fun h=>scan_step hall.out h);have Hok:=hI_ (show eOk k q=(Kx.rightsOk (Kx.envAt k.envs q).rights&&Kx.inR (Kx.envAt k.envs q).root (-1) 11&&(decide ((Kx.envAt k.envs q).root<0)||(Kx.inf k.infos (Kx.envAt k.envs q).root.toNat).kind==3)&&Kx.allowed k.infos (Kx.reach k.mem (Kx.envAt k.envs q).root) (Kx.envAt k.envs q).rights) from rfl);have Hstep:=hI_ (fun g=>RF_step k q g hlt);have Hle:=hI_ (fun g=>RF_le k Hm.out q g);clear hR;generalize (Kx.envAt k.envs q).root=r at h2 Hok Hstep;generalize (Kx.envAt k.envs q).rights=l at HR Hsz Hok;obtain ⟨x,y,hx,hv1,hv2⟩:=RS.val HR.out;subst hx;clear hv1 hv2;obtain ⟨W1,hW1⟩:∃ W1,wr.alloc (.cells #[.slice x l.length y,.int .i64 r] 40)=W1:=⟨_,rfl⟩
      have B1:=hI_ (show Below wr.heap.size wr W1 from hW1 ▸ bL_);have Bx:=hI_ (show W1.cell? ⟨wr.heap.size,0,none⟩=some (.slice x l.length y)∧W1.cell? ⟨wr.heap.size,1,none⟩=some (.int .i64 r)∧wr.heap.size<W1.heap.size from hW1 ▸ Box2.new wr (.slice x l.length y) (.int .i64 r) 40);have B01:=hI_ (hb.out.trans (B1.out.mono hb.out.size));have M1:=hI_ (HK.out.m.below B01.out);have I1:=hI_ (RS.below HK.out.i B01.out);have R1:=hI_ (RS.below HR.out B1.out);have Hbx1:=hI_ (Hbx.out.below B01.out);have O1:=hI_ (ho.out.below B1.out);obtain ⟨k0,k1,k2,k3,_⟩:=Hbx.out.below hb.out
      cases hrv:Kx.rightsOk l with
      | false =>
        have HF:=hI_ (HB.out (by rw [Hok.out,hrv];rfl));have Hrv:=hI_ hrv;clear hrv HB HN Hok;have Hcl:=hI_ (show ∀ wz,Below W1.heap.size W1 wz→(wz.cell? ⟨w.heap.size,0,none⟩=some (.slice am k.mem.length cm)∧wz.cell? ⟨w.heap.size,1,none⟩=some (.slice ai k.infos.length ci)∧wz.cell? ⟨wr.heap.size,0,none⟩=some (.slice x l.length y)∧wz.cell? ⟨wr.heap.size,1,none⟩=some (.int .i64 r)) from fun wz hz =>
          ⟨(hz.cell (p:=⟨w.heap.size,0,none⟩) Hbx1.out.2.2.2.2).trans Hbx1.out.1,(hz.cell (p:=⟨w.heap.size,1,none⟩) Hbx1.out.2.2.2.2).trans Hbx1.out.2.1,(hz.cell (p:=⟨wr.heap.size,0,none⟩) Bx.out.2.2).trans Bx.out.1,(hz.cell (p:=⟨wr.heap.size,1,none⟩) Bx.out.2.2).trans Bx.out.2.1⟩)
        have S1:=Hcl.out W1 bR_;go_wp2_with fail;clear h1 h2 k0 k1 k2 k3 hW1;refine wp_region_held_drew (S:=(fun wz=>wz.cell? ⟨w.heap.size,0,none⟩=some (.slice am k.mem.length cm)∧wz.cell? ⟨w.heap.size,1,none⟩=some (.slice ai k.infos.length ci)∧wz.cell? ⟨wr.heap.size,0,none⟩=some (.slice x l.length y)∧wz.cell? ⟨wr.heap.size,1,none⟩=some (.int .i64 r))) (by kernel_rfl) (by first | assumption | go_keep) (fun hHeld=>?_)
        refine tH 0 ?_;refine tH 1 ?_;refine rH 2 (fun K hK=>?_)
        (rw [if_pos (by rfl)];go_simp;go_at_call 37;refine (implRightsValid_c l _ W1.drew (show RStr W1.drew _ _ from R1.out) Hsz.out).mono ?_;rintro e w2 ⟨rfl,hb2'⟩;rw [Hrv.out];have hb2:=Below.undrew hb2';have hc2:=Hcl.out w2 hb2;go_wp2_with fail)
        refine hK.out _ _ ?_ (fun hHeld=>?_)
        · first | assumption | go_keep
        clear hK K;refine nH ?_;refine tH 3 ?_;refine tH 4 ?_;refine sH 5 ?_;refine sH 6 ?_;refine sH 7 ?_;refine sH 8 ?_;refine sH 9 ?_;refine sH 10 ?_;refine sH 11 ?_;refine sH 12 ?_;refine sH 13 ?_;refine sH 14 ?_;refine sH 15 ?_;refine sH 16 ?_;refine sH 17 ?_;refine sH 18 ?_;refine sH 19 ?_;refine sH 20 ?_;refine sH 21 ?_;refine sH 22 ?_;refine sH 23 ?_;refine tH 24 ?_;refine tH 25 ?_;refine sH 26 ?_;refine sH 27 ?_;refine sH 28 ?_;refine sH 29 ?_;refine sH 30 ?_;refine sH 31 ?_;refine sH 32 ?_;refine sH 33 ?_;refine sH 34 ?_;refine tH 35 ?_;refine wpAnyH_done (by kernel_rfl) ?_ _;have Hb9:=hI_ (B01.out.trans (hb2.mono B01.out.size));have O9:=hI_ (O1.out.below hb2);clear S1;go_wp2_with fail;go_ret;exact ⟨ret_bool HF.out.symm,Hw0.out.trans (Hb9.out.mono Hw0.out.size)⟩
      | true =>
        by_cases hr1:r=-1
        · subst hr1;have hr11:=hI_ (show (-1:Int)≤11 by omega)
          cases hal:Kx.allowed k.infos (Kx.reach k.mem (-1)) l with
          | false =>
            have HF:=hI_ (HB.out (by rw [Hok.out,hal,Bool.and_false]));have Hrv:=hI_ hrv;have Hal:=hI_ hal;clear hrv hal HB HN Hok;have Hcl:=hI_ (show ∀ wz,Below W1.heap.size W1 wz→(wz.cell? ⟨w.heap.size,0,none⟩=some (.slice am k.mem.length cm)∧wz.cell? ⟨w.heap.size,1,none⟩=some (.slice ai k.infos.length ci)∧wz.cell? ⟨wr.heap.size,0,none⟩=some (.slice x l.length y)∧wz.cell? ⟨wr.heap.size,1,none⟩=some (.int .i64 (-1))) from fun wz hz =>
              ⟨(hz.cell (p:=⟨w.heap.size,0,none⟩) Hbx1.out.2.2.2.2).trans Hbx1.out.1,(hz.cell (p:=⟨w.heap.size,1,none⟩) Hbx1.out.2.2.2.2).trans Hbx1.out.2.1,(hz.cell (p:=⟨wr.heap.size,0,none⟩) Bx.out.2.2).trans Bx.out.1,(hz.cell (p:=⟨wr.heap.size,1,none⟩) Bx.out.2.2).trans Bx.out.2.1⟩)
            have S1:=Hcl.out W1 bR_;go_wp2_with fail;clear h1 h2 k0 k1 k2 k3 hW1;refine wp_region_held_drew (S:=(fun wz=>wz.cell? ⟨w.heap.size,0,none⟩=some (.slice am k.mem.length cm)∧wz.cell? ⟨w.heap.size,1,none⟩=some (.slice ai k.infos.length ci)∧wz.cell? ⟨wr.heap.size,0,none⟩=some (.slice x l.length y)∧wz.cell? ⟨wr.heap.size,1,none⟩=some (.int .i64 (-1)))) (by kernel_rfl) (by first | assumption | go_keep) (fun hHeld=>?_)
            refine tH 0 ?_;refine tH 1 ?_;refine rH 2 (fun K hK=>?_)
            (rw [if_pos (by rfl)];go_simp;go_at_call 37;refine (implRightsValid_c l _ W1.drew (show RStr W1.drew _ _ from R1.out) Hsz.out).mono ?_;rintro e w2 ⟨rfl,hb2'⟩;rw [Hrv.out];have hb2:=Below.undrew hb2';have hc2:=Hcl.out w2 hb2;go_wp2_with fail)
            refine hK.out _ _ ?_ (fun hHeld=>?_)
            · first | assumption | go_keep
            clear hK K;refine nH ?_;refine tH 3 ?_;refine tH 4 ?_;refine tH 5 ?_;refine tH 6 ?_;refine tH 7 ?_;refine tH 8 ?_;refine sH 9 ?_;refine sH 10 ?_;refine sH 11 ?_;refine sH 12 ?_;refine sH 13 ?_;refine sH 14 ?_;refine sH 15 ?_;refine sH 16 ?_;refine sH 17 ?_;refine sH 18 ?_;refine sH 19 ?_;refine sH 20 ?_;refine sH 21 ?_;refine sH 22 ?_;refine tH 23 ?_;refine tH 24 ?_;refine tH 25 ?_;refine tH 26 ?_;refine tH 27 ?_;refine tH 28 ?_;refine tH 29 ?_;refine tH 30 ?_;refine tH 31 ?_;refine rH 32 (fun K hK=>?_)
            (rw [if_pos (by rfl)];go_simp;go_at_call 40;refine (reached_c k.mem (-1) _ _ (M1.out.below hb2) Hm.out hr11.out).mono ?_;rintro e w3 ⟨u3,rfl,ho3,hb3⟩;have hb23:=hb2.trans (hb3.mono hb2.size);have hc3:=Hcl.out w3 hb23;have Ho3:=hI_ ho3.ri;clear ho3;go_wp2_with fail)
            refine hK.out _ _ ?_ (fun hHeld=>?_)
            · first | assumption | go_keep
            clear hK K;refine nH ?_;refine rH 33 (fun K hK=>?_)
            (rw [if_pos (by rfl)];go_simp;go_at_call 39;refine (implAllowed_c k.infos (Kx.reach k.mem (-1)) l w.heap.size _ _ _ _ (RS.below I1.out hb23) Ho3.out (RS.below R1.out hb23) (fun f hf=>by rw [Hil.out];exact reach_lt f hf) hc3.2.1).mono ?_;rintro e w4 ⟨rfl,hb4⟩;rw [Hal.out];have hb5:=hb23.trans (hb4.mono hb23.size);have hc5:=Hcl.out w4 hb5;go_wp2_with fail)
            refine hK.out _ _ ?_ (fun hHeld=>?_)
            · first | assumption | go_keep
            clear hK K;refine nH ?_;refine tH 34 ?_;refine tH 35 ?_;refine wpAnyH_done (by kernel_rfl) ?_ _;have Hb9:=hI_ (B01.out.trans (hb5.mono B01.out.size));have O9:=hI_ (O1.out.below hb5);clear S1;go_wp2_with fail;go_ret;exact ⟨ret_bool HF.out.symm,Hw0.out.trans (Hb9.out.mono Hw0.out.size)⟩
          | true =>
            have HN2:=hI_ (HN.out (by rw [Hok.out,hrv,hal];rfl));have HS2:=hI_ (show tab12 (RF k (q+1))=tab12 (RF k q) from tab12_congr fun g _=>by rw [Hstep.out,if_neg (by omega)];rfl)
            have Hrv:=hI_ hrv;have Hal:=hI_ hal;clear hrv hal HB HN Hok;have Hcl:=hI_ (show ∀ wz,Below W1.heap.size W1 wz→(wz.cell? ⟨w.heap.size,0,none⟩=some (.slice am k.mem.length cm)∧wz.cell? ⟨w.heap.size,1,none⟩=some (.slice ai k.infos.length ci)∧wz.cell? ⟨wr.heap.size,0,none⟩=some (.slice x l.length y)∧wz.cell? ⟨wr.heap.size,1,none⟩=some (.int .i64 (-1))) from fun wz hz =>
              ⟨(hz.cell (p:=⟨w.heap.size,0,none⟩) Hbx1.out.2.2.2.2).trans Hbx1.out.1,(hz.cell (p:=⟨w.heap.size,1,none⟩) Hbx1.out.2.2.2.2).trans Hbx1.out.2.1,(hz.cell (p:=⟨wr.heap.size,0,none⟩) Bx.out.2.2).trans Bx.out.1,(hz.cell (p:=⟨wr.heap.size,1,none⟩) Bx.out.2.2).trans Bx.out.2.1⟩)
            have S1:=Hcl.out W1 bR_;go_wp2_with fail;clear h1 h2 k0 k1 k2 k3 hW1;refine wp_region_held_drew (S:=(fun wz=>wz.cell? ⟨w.heap.size,0,none⟩=some (.slice am k.mem.length cm)∧wz.cell? ⟨w.heap.size,1,none⟩=some (.slice ai k.infos.length ci)∧wz.cell? ⟨wr.heap.size,0,none⟩=some (.slice x l.length y)∧wz.cell? ⟨wr.heap.size,1,none⟩=some (.int .i64 (-1)))) (by kernel_rfl) (by first | assumption | go_keep) (fun hHeld=>?_)
            refine tH 0 ?_;refine tH 1 ?_;refine rH 2 (fun K hK=>?_)
            (rw [if_pos (by rfl)];go_simp;go_at_call 37;refine (implRightsValid_c l _ W1.drew (show RStr W1.drew _ _ from R1.out) Hsz.out).mono ?_;rintro e w2 ⟨rfl,hb2'⟩;rw [Hrv.out];have hb2:=Below.undrew hb2';have hc2:=Hcl.out w2 hb2;go_wp2_with fail)
            refine hK.out _ _ ?_ (fun hHeld=>?_)
            · first | assumption | go_keep
            clear hK K;refine nH ?_;refine tH 3 ?_;refine tH 4 ?_;refine tH 5 ?_;refine tH 6 ?_;refine tH 7 ?_;refine tH 8 ?_;refine sH 9 ?_;refine sH 10 ?_;refine sH 11 ?_;refine sH 12 ?_;refine sH 13 ?_;refine sH 14 ?_;refine sH 15 ?_;refine sH 16 ?_;refine sH 17 ?_;refine sH 18 ?_;refine sH 19 ?_;refine sH 20 ?_;refine sH 21 ?_;refine sH 22 ?_;refine tH 23 ?_;refine tH 24 ?_;refine tH 25 ?_;refine tH 26 ?_;refine tH 27 ?_;refine tH 28 ?_;refine tH 29 ?_;refine tH 30 ?_;refine tH 31 ?_;refine rH 32 (fun K hK=>?_)
            (rw [if_pos (by rfl)];go_simp;go_at_call 40;refine (reached_c k.mem (-1) _ _ (M1.out.below hb2) Hm.out hr11.out).mono ?_;rintro e w3 ⟨u3,rfl,ho3,hb3⟩;have hb23:=hb2.trans (hb3.mono hb2.size);have hc3:=Hcl.out w3 hb23;have Ho3:=hI_ ho3.ri;clear ho3;go_wp2_with fail)
            refine hK.out _ _ ?_ (fun hHeld=>?_)
            · first | assumption | go_keep
            clear hK K;refine nH ?_;refine rH 33 (fun K hK=>?_)
            (rw [if_pos (by rfl)];go_simp;go_at_call 39;refine (implAllowed_c k.infos (Kx.reach k.mem (-1)) l w.heap.size _ _ _ _ (RS.below I1.out hb23) Ho3.out (RS.below R1.out hb23) (fun f hf=>by rw [Hil.out];exact reach_lt f hf) hc3.2.1).mono ?_;rintro e w4 ⟨rfl,hb4⟩;rw [Hal.out];have hb5:=hb23.trans (hb4.mono hb23.size);have hc5:=Hcl.out w4 hb5;go_wp2_with fail)
            refine hK.out _ _ ?_ (fun hHeld=>?_)
            · first | assumption | go_keep
            clear hK K;refine nH ?_;refine tH 34 ?_;refine tH 35 ?_;refine wpAnyH_done (by kernel_rfl) ?_ _;have Hb9:=hI_ (B01.out.trans (hb5.mono B01.out.size));have O9:=hI_ (O1.out.below hb5);clear S1;go_wp2_with fail;go_roundw
            case rel=>exact ⟨q+1,by go_num,by omega,HN2.out,by show OS _ _ _ _ _ _ _;rw [HS2.out];exact O9.out,Hb9.out⟩
            case measure=>simp [intOf];omega
        · have hrn:(r != -1)=true:=by simpa using hr1
          cases hfr:Kx.inR r 0 11 with
          | false =>
            have HF:=hI_ (HB.out (by rw [Hok.out,show Kx.inR r (-1) 11=false from by rw [Kx.inR_false] at hfr ⊢;omega];simp));have Hrv:=hI_ hrv;have Hfr:=hI_ hfr;clear hrv hfr hr1 HB HN Hok;have Hcl:=hI_ (show ∀ wz,Below W1.heap.size W1 wz→(wz.cell? ⟨w.heap.size,0,none⟩=some (.slice am k.mem.length cm)∧wz.cell? ⟨w.heap.size,1,none⟩=some (.slice ai k.infos.length ci)∧wz.cell? ⟨wr.heap.size,0,none⟩=some (.slice x l.length y)∧wz.cell? ⟨wr.heap.size,1,none⟩=some (.int .i64 r)) from fun wz hz =>
              ⟨(hz.cell (p:=⟨w.heap.size,0,none⟩) Hbx1.out.2.2.2.2).trans Hbx1.out.1,(hz.cell (p:=⟨w.heap.size,1,none⟩) Hbx1.out.2.2.2.2).trans Hbx1.out.2.1,(hz.cell (p:=⟨wr.heap.size,0,none⟩) Bx.out.2.2).trans Bx.out.1,(hz.cell (p:=⟨wr.heap.size,1,none⟩) Bx.out.2.2).trans Bx.out.2.1⟩)
            have S1:=Hcl.out W1 bR_;go_wp2_with fail;clear h1 h2 k0 k1 k2 k3 hW1;refine wp_region_held_drew (S:=(fun wz=>wz.cell? ⟨w.heap.size,0,none⟩=some (.slice am k.mem.length cm)∧wz.cell? ⟨w.heap.size,1,none⟩=some (.slice ai k.infos.length ci)∧wz.cell? ⟨wr.heap.size,0,none⟩=some (.slice x l.length y)∧wz.cell? ⟨wr.heap.size,1,none⟩=some (.int .i64 r))) (by kernel_rfl) (by first | assumption | go_keep) (fun hHeld=>?_)
            refine tH 0 ?_;refine tH 1 ?_;refine rH 2 (fun K hK=>?_)
            (rw [if_pos (by rfl)];go_simp;go_at_call 37;refine (implRightsValid_c l _ W1.drew (show RStr W1.drew _ _ from R1.out) Hsz.out).mono ?_;rintro e w2 ⟨rfl,hb2'⟩;rw [Hrv.out];have hb2:=Below.undrew hb2';have hc2:=Hcl.out w2 hb2;go_wp2_with fail)
            refine hK.out _ _ ?_ (fun hHeld=>?_)
            · first | assumption | go_keep
            clear hK K;refine nH ?_;refine tH 3 ?_;refine tH 4 ?_;refine tH 5 ?_;refine tH 6 ?_;refine tH 7 ?_;refine tH 8 ?_;refine tH 9 ?_;refine tH 10 ?_;refine rH 11 (fun K hK=>?_)
            (rw [if_pos (by rfl)];go_simp;go_at_call 38;refine (isFrame_c _ _).mono ?_;rintro e w' ⟨rfl,rfl⟩;rw [Hfr.out];go_wp2_with fail)
            refine hK.out _ _ ?_ (fun hHeld=>?_)
            · first | assumption | go_keep
            clear hK K;refine nH ?_;refine tH 12 ?_;refine tH 13 ?_;refine sH 14 ?_;refine sH 15 ?_;refine sH 16 ?_;refine sH 17 ?_;refine sH 18 ?_;refine sH 19 ?_;refine sH 20 ?_;refine sH 21 ?_;refine tH 22 ?_;refine tH 23 ?_;refine tH 24 ?_;refine tH 25 ?_;refine sH 26 ?_;refine sH 27 ?_;refine sH 28 ?_;refine sH 29 ?_;refine sH 30 ?_;refine sH 31 ?_;refine sH 32 ?_;refine sH 33 ?_;refine sH 34 ?_;refine tH 35 ?_;refine wpAnyH_done (by kernel_rfl) ?_ _;have Hb9:=hI_ (B01.out.trans (hb2.mono B01.out.size));have O9:=hI_ (O1.out.below hb2);clear S1;go_wp2_with fail;go_ret;exact ⟨ret_bool HF.out.symm,Hw0.out.trans (Hb9.out.mono Hw0.out.size)⟩
          | true =>
            have hr11':=Kx.inR_true.1 hfr;obtain ⟨x0,rfl⟩:=Int.eq_ofNat_of_zero_le hr11'.1;have hx12:x0<k.infos.length:=by rw [Hil.out];omega
            have hxI:(x0:Int)<(k.infos.length:Int):=by omega
            have hr11:=hI_ (show (x0:Int)≤11 from hr11'.2);have hin:=hI_ (show Kx.inR (x0:Int) (-1) 11=true by rw [Kx.inR_true];omega);have hx11:x0<12:=by omega
            obtain ⟨bi,oi,ci',e,hbi,g1,_,_⟩:=RInfo.at I1.out hx12;simp only [Value.slice.injEq] at e;obtain ⟨rfl,_,rfl⟩:=e;have Hbi:=hI_ hbi;rw [Int.toNat_natCast] at Hok;generalize (Kx.inf k.infos x0).kind=kd at g1 Hok;have Hkd:=hI_ g1;have hd0:decide ((x0:Int)<0)=false:=by simp
            rw [hin.out,hd0,Bool.false_or] at Hok;clear hbi hr11' hd0 g1
            by_cases hk3:kd=3
            · subst hk3
              cases hal:Kx.allowed k.infos (Kx.reach k.mem (x0:Int)) l with
              | false =>
                have HF:=hI_ (HB.out (by rw [Hok.out,hal,Bool.and_false]));have Hrv:=hI_ hrv;have Hfr:=hI_ hfr;have Hal:=hI_ hal;clear hrv hfr hal hr1 HB HN Hok;have Hcl:=hI_ (show ∀ wz,Below W1.heap.size W1 wz→(wz.cell? ⟨w.heap.size,0,none⟩=some (.slice am k.mem.length cm)∧wz.cell? ⟨w.heap.size,1,none⟩=some (.slice (some ⟨bi,oi,none⟩) k.infos.length ci)∧wz.cell? ⟨wr.heap.size,0,none⟩=some (.slice x l.length y)∧wz.cell? ⟨wr.heap.size,1,none⟩=some (.int .i64 (x0:Int))∧wz.cell? ⟨bi,oi+x0*3,none⟩=some (.int .i64 3)) from fun wz hz =>
                  ⟨(hz.cell (p:=⟨w.heap.size,0,none⟩) Hbx1.out.2.2.2.2).trans Hbx1.out.1,(hz.cell (p:=⟨w.heap.size,1,none⟩) Hbx1.out.2.2.2.2).trans Hbx1.out.2.1,(hz.cell (p:=⟨wr.heap.size,0,none⟩) Bx.out.2.2).trans Bx.out.1,(hz.cell (p:=⟨wr.heap.size,1,none⟩) Bx.out.2.2).trans Bx.out.2.1,(hz.cell (p:=⟨bi,oi+x0*3,none⟩) Hbi.out).trans Hkd.out⟩)
                have S1:=Hcl.out W1 bR_;go_wp2_with fail;clear h1 h2 k0 k1 k2 k3 hW1;refine wp_region_held_drew (S:=(fun wz=>wz.cell? ⟨w.heap.size,0,none⟩=some (.slice am k.mem.length cm)∧wz.cell? ⟨w.heap.size,1,none⟩=some (.slice (some ⟨bi,oi,none⟩) k.infos.length ci)∧wz.cell? ⟨wr.heap.size,0,none⟩=some (.slice x l.length y)∧wz.cell? ⟨wr.heap.size,1,none⟩=some (.int .i64 (x0:Int))∧wz.cell? ⟨bi,oi+x0*3,none⟩=some (.int .i64 3))) (by kernel_rfl) (by first | assumption | go_keep) (fun hHeld=>?_)
                refine tH 0 ?_;refine tH 1 ?_;refine rH 2 (fun K hK=>?_)
                (rw [if_pos (by rfl)];go_simp;go_at_call 37;refine (implRightsValid_c l _ W1.drew (show RStr W1.drew _ _ from R1.out) Hsz.out).mono ?_;rintro e w2 ⟨rfl,hb2'⟩;rw [Hrv.out];have hb2:=Below.undrew hb2';have hc2:=Hcl.out w2 hb2;go_wp2_with fail)
                refine hK.out _ _ ?_ (fun hHeld=>?_)
                · first | assumption | go_keep
                clear hK K;refine nH ?_;refine tH 3 ?_;refine tH 4 ?_;refine tH 5 ?_;refine tH 6 ?_;refine tH 7 ?_;refine tH 8 ?_;refine tH 9 ?_;refine tH 10 ?_;refine rH 11 (fun K hK=>?_)
                (rw [if_pos (by rfl)];go_simp;go_at_call 38;refine (isFrame_c _ _).mono ?_;rintro e w' ⟨rfl,rfl⟩;rw [Hfr.out];go_wp2_with fail)
                refine hK.out _ _ ?_ (fun hHeld=>?_)
                · first | assumption | go_keep
                clear hK K;refine nH ?_;refine tH 12 ?_;refine tH 13 ?_;refine tH 14 ?_;refine tH 15 ?_;refine tH 16 ?_;refine tH 17 ?_;refine tH 18 ?_;refine tH 19 ?_;refine tH 20 ?_;refine tH 21 ?_;refine tH 22 ?_;refine tH 23 ?_;refine tH 24 ?_;refine tH 25 ?_;refine tH 26 ?_;refine tH 27 ?_;refine tH 28 ?_;refine tH 29 ?_;refine tH 30 ?_;refine tH 31 ?_;refine rH 32 (fun K hK=>?_)
                (rw [if_pos (by rfl)];go_simp;go_at_call 40;refine (reached_c k.mem (x0:Int) _ _ (M1.out.below hb2) Hm.out hr11.out).mono ?_;rintro e w3 ⟨u3,rfl,ho3,hb3⟩;have hb23:=hb2.trans (hb3.mono hb2.size);have hc3:=Hcl.out w3 hb23;have Ho3:=hI_ ho3.ri;clear ho3;go_wp2_with fail)
                refine hK.out _ _ ?_ (fun hHeld=>?_)
                · first | assumption | go_keep
                clear hK K;refine nH ?_;refine rH 33 (fun K hK=>?_)
                (rw [if_pos (by rfl)];go_simp;go_at_call 39;refine (implAllowed_c k.infos (Kx.reach k.mem (x0:Int)) l w.heap.size _ _ _ _ (RS.below I1.out hb23) Ho3.out (RS.below R1.out hb23) (fun f hf=>by rw [Hil.out];exact reach_lt f hf) hc3.2.1).mono ?_;rintro e w4 ⟨rfl,hb4⟩;rw [Hal.out];have hb5:=hb23.trans (hb4.mono hb23.size);have hc5:=Hcl.out w4 hb5;go_wp2_with fail)
                refine hK.out _ _ ?_ (fun hHeld=>?_)
                · first | assumption | go_keep
                clear hK K;refine nH ?_;refine tH 34 ?_;refine tH 35 ?_;refine wpAnyH_done (by kernel_rfl) ?_ _;have Hb9:=hI_ (B01.out.trans (hb5.mono B01.out.size));have O9:=hI_ (O1.out.below hb5);clear S1;go_wp2_with fail;go_ret;exact ⟨ret_bool HF.out.symm,Hw0.out.trans (Hb9.out.mono Hw0.out.size)⟩
              | true =>
                have HN2:=hI_ (HN.out (by rw [Hok.out,hrv,hal];rfl));have Hrv:=hI_ hrv;have Hfr:=hI_ hfr;have Hal:=hI_ hal;clear hrv hfr hal hr1 HB HN Hok;have Hcl:=hI_ (show ∀ wz,Below W1.heap.size W1 wz→(wz.cell? ⟨w.heap.size,0,none⟩=some (.slice am k.mem.length cm)∧wz.cell? ⟨w.heap.size,1,none⟩=some (.slice (some ⟨bi,oi,none⟩) k.infos.length ci)∧wz.cell? ⟨wr.heap.size,0,none⟩=some (.slice x l.length y)∧wz.cell? ⟨wr.heap.size,1,none⟩=some (.int .i64 (x0:Int))∧wz.cell? ⟨bi,oi+x0*3,none⟩=some (.int .i64 3)) from fun wz hz =>
                  ⟨(hz.cell (p:=⟨w.heap.size,0,none⟩) Hbx1.out.2.2.2.2).trans Hbx1.out.1,(hz.cell (p:=⟨w.heap.size,1,none⟩) Hbx1.out.2.2.2.2).trans Hbx1.out.2.1,(hz.cell (p:=⟨wr.heap.size,0,none⟩) Bx.out.2.2).trans Bx.out.1,(hz.cell (p:=⟨wr.heap.size,1,none⟩) Bx.out.2.2).trans Bx.out.2.1,(hz.cell (p:=⟨bi,oi+x0*3,none⟩) Hbi.out).trans Hkd.out⟩)
                have S1:=Hcl.out W1 bR_;go_wp2_with fail;clear h1 h2 k0 k1 k2 k3 hW1;refine wp_region_held_drew (S:=(fun wz=>wz.cell? ⟨w.heap.size,0,none⟩=some (.slice am k.mem.length cm)∧wz.cell? ⟨w.heap.size,1,none⟩=some (.slice (some ⟨bi,oi,none⟩) k.infos.length ci)∧wz.cell? ⟨wr.heap.size,0,none⟩=some (.slice x l.length y)∧wz.cell? ⟨wr.heap.size,1,none⟩=some (.int .i64 (x0:Int))∧wz.cell? ⟨bi,oi+x0*3,none⟩=some (.int .i64 3))) (by kernel_rfl) (by first | assumption | go_keep) (fun hHeld=>?_)
                refine tH 0 ?_;refine tH 1 ?_;refine rH 2 (fun K hK=>?_)
                (rw [if_pos (by rfl)];go_simp;go_at_call 37;refine (implRightsValid_c l _ W1.drew (show RStr W1.drew _ _ from R1.out) Hsz.out).mono ?_;rintro e w2 ⟨rfl,hb2'⟩;rw [Hrv.out];have hb2:=Below.undrew hb2';have hc2:=Hcl.out w2 hb2;go_wp2_with fail)
                refine hK.out _ _ ?_ (fun hHeld=>?_)
                · first | assumption | go_keep
                clear hK K;refine nH ?_;refine tH 3 ?_;refine tH 4 ?_;refine tH 5 ?_;refine tH 6 ?_;refine tH 7 ?_;refine tH 8 ?_;refine tH 9 ?_;refine tH 10 ?_;refine rH 11 (fun K hK=>?_)
                (rw [if_pos (by rfl)];go_simp;go_at_call 38;refine (isFrame_c _ _).mono ?_;rintro e w' ⟨rfl,rfl⟩;rw [Hfr.out];go_wp2_with fail)
                refine hK.out _ _ ?_ (fun hHeld=>?_)
                · first | assumption | go_keep
                clear hK K;refine nH ?_;refine tH 12 ?_;refine tH 13 ?_;refine tH 14 ?_;refine tH 15 ?_;refine tH 16 ?_;refine tH 17 ?_;refine tH 18 ?_;refine tH 19 ?_;refine tH 20 ?_;refine tH 21 ?_;refine tH 22 ?_;refine tH 23 ?_;refine tH 24 ?_;refine tH 25 ?_;refine tH 26 ?_;refine tH 27 ?_;refine tH 28 ?_;refine tH 29 ?_;refine tH 30 ?_;refine tH 31 ?_;refine rH 32 (fun K hK=>?_)
                (rw [if_pos (by rfl)];go_simp;go_at_call 40;refine (reached_c k.mem (x0:Int) _ _ (M1.out.below hb2) Hm.out hr11.out).mono ?_;rintro e w3 ⟨u3,rfl,ho3,hb3⟩;have hb23:=hb2.trans (hb3.mono hb2.size);have hc3:=Hcl.out w3 hb23;have Ho3:=hI_ ho3.ri;clear ho3;go_wp2_with fail)
                refine hK.out _ _ ?_ (fun hHeld=>?_)
                · first | assumption | go_keep
                clear hK K;refine nH ?_;refine rH 33 (fun K hK=>?_)
                (rw [if_pos (by rfl)];go_simp;go_at_call 39;refine (implAllowed_c k.infos (Kx.reach k.mem (x0:Int)) l w.heap.size _ _ _ _ (RS.below I1.out hb23) Ho3.out (RS.below R1.out hb23) (fun f hf=>by rw [Hil.out];exact reach_lt f hf) hc3.2.1).mono ?_;rintro e w4 ⟨rfl,hb4⟩;rw [Hal.out];have hb5:=hb23.trans (hb4.mono hb23.size);have hc5:=Hcl.out w4 hb5;go_wp2_with fail)
                refine hK.out _ _ ?_ (fun hHeld=>?_)
                · first | assumption | go_keep
                clear hK K;refine nH ?_;refine tH 34 ?_;refine tH 35 ?_;refine wpAnyH_done (by kernel_rfl) ?_ _;have Hb9:=hI_ (B01.out.trans (hb5.mono B01.out.size));have O9:=hI_ (O1.out.below hb5);clear S1;obtain ⟨b6,cap6,e,_,hcg,hfg⟩:=O9.out.oi.at (k:=x0) (by rw [tab12_length];exact hx11);simp only [Value.slice.injEq,Option.some.injEq,Addr.mk.injEq] at e;obtain ⟨⟨rfl,_,_⟩,he12,rfl⟩:=e;clear he12;rw [tab12_get] at hcg;have hset:=hI_ (tab12_set (RF k q) (RF k (q+1)) x0 ((RF k q x0:Int)+1) (by rw [Hstep.out,if_pos rfl];omega) (fun i hi=>by rw [Hstep.out,if_neg (by omega)];rfl))
                have hst:=O9.out.oi.stored (tab12_length _) x0 ((RF k q x0:Int)+1);rw [hset.out] at hst;have Hst:=hI_ hst.1;have hxx:(x0:Int)<12:=by omega
                have hbI:(RF k q x0:Int)≤1000:=by have:=Hle.out x0;omega
                clear hst hset;generalize RF k q x0=rq at hcg Hst hbI;go_wp2_with fail;go_roundw
                case rel=>exact ⟨q+1,by go_num,by omega,HN2.out,Hst.out.os,Hb9.out.setCell (p:=⟨g,x0,none⟩) Hg.out _⟩
                case measure=>simp [intOf];omega
            · have hkb:(kd != 3)=true:=by simpa using hk3
              have HF:=hI_ (HB.out (by rw [Hok.out,show (kd==3)=false from by simpa using hk3];simp));have Hrv:=hI_ hrv;have Hfr:=hI_ hfr;clear hrv hfr hr1 hk3 HB HN Hok;have Hcl:=hI_ (show ∀ wz,Below W1.heap.size W1 wz→(wz.cell? ⟨w.heap.size,0,none⟩=some (.slice am k.mem.length cm)∧wz.cell? ⟨w.heap.size,1,none⟩=some (.slice (some ⟨bi,oi,none⟩) k.infos.length ci)∧wz.cell? ⟨wr.heap.size,0,none⟩=some (.slice x l.length y)∧wz.cell? ⟨wr.heap.size,1,none⟩=some (.int .i64 (x0:Int))∧wz.cell? ⟨bi,oi+x0*3,none⟩=some (.int .i64 kd)) from fun wz hz =>
                ⟨(hz.cell (p:=⟨w.heap.size,0,none⟩) Hbx1.out.2.2.2.2).trans Hbx1.out.1,(hz.cell (p:=⟨w.heap.size,1,none⟩) Hbx1.out.2.2.2.2).trans Hbx1.out.2.1,(hz.cell (p:=⟨wr.heap.size,0,none⟩) Bx.out.2.2).trans Bx.out.1,(hz.cell (p:=⟨wr.heap.size,1,none⟩) Bx.out.2.2).trans Bx.out.2.1,(hz.cell (p:=⟨bi,oi+x0*3,none⟩) Hbi.out).trans Hkd.out⟩)
              have S1:=Hcl.out W1 bR_;go_wp2_with fail;clear h1 h2 k0 k1 k2 k3 hW1;refine wp_region_held_drew (S:=(fun wz=>wz.cell? ⟨w.heap.size,0,none⟩=some (.slice am k.mem.length cm)∧wz.cell? ⟨w.heap.size,1,none⟩=some (.slice (some ⟨bi,oi,none⟩) k.infos.length ci)∧wz.cell? ⟨wr.heap.size,0,none⟩=some (.slice x l.length y)∧wz.cell? ⟨wr.heap.size,1,none⟩=some (.int .i64 (x0:Int))∧wz.cell? ⟨bi,oi+x0*3,none⟩=some (.int .i64 kd))) (by kernel_rfl) (by first | assumption | go_keep) (fun hHeld=>?_)
              refine tH 0 ?_;refine tH 1 ?_;refine rH 2 (fun K hK=>?_)
              (rw [if_pos (by rfl)];go_simp;go_at_call 37;refine (implRightsValid_c l _ W1.drew (show RStr W1.drew _ _ from R1.out) Hsz.out).mono ?_;rintro e w2 ⟨rfl,hb2'⟩;rw [Hrv.out];have hb2:=Below.undrew hb2';have hc2:=Hcl.out w2 hb2;go_wp2_with fail)
              refine hK.out _ _ ?_ (fun hHeld=>?_)
              · first | assumption | go_keep
              clear hK K;refine nH ?_;refine tH 3 ?_;refine tH 4 ?_;refine tH 5 ?_;refine tH 6 ?_;refine tH 7 ?_;refine tH 8 ?_;refine tH 9 ?_;refine tH 10 ?_;refine rH 11 (fun K hK=>?_)
              (rw [if_pos (by rfl)];go_simp;go_at_call 38;refine (isFrame_c _ _).mono ?_;rintro e w' ⟨rfl,rfl⟩;rw [Hfr.out];go_wp2_with fail)
              refine hK.out _ _ ?_ (fun hHeld=>?_)
              · first | assumption | go_keep
              clear hK K;refine nH ?_;refine tH 12 ?_;refine tH 13 ?_;refine tH 14 ?_;refine tH 15 ?_;refine tH 16 ?_;refine tH 17 ?_;refine tH 18 ?_;refine tH 19 ?_;refine tH 20 ?_;refine tH 21 ?_;refine tH 22 ?_;refine tH 23 ?_;refine tH 24 ?_;refine tH 25 ?_;refine sH 26 ?_;refine sH 27 ?_;refine sH 28 ?_;refine sH 29 ?_;refine sH 30 ?_;refine sH 31 ?_;refine sH 32 ?_;refine sH 33 ?_;refine sH 34 ?_;refine tH 35 ?_;refine wpAnyH_done (by kernel_rfl) ?_ _;have Hb9:=hI_ (B01.out.trans (hb2.mono B01.out.size));have O9:=hI_ (O1.out.below hb2);clear S1;go_wp2_with fail;go_ret;exact ⟨ret_bool HF.out.symm,Hw0.out.trans (Hb9.out.mono Hw0.out.size)⟩
    · have hq3:q=3:=by have:=Hen.out;omega
      subst hq3;have Ho:=hI_ ho.out;have HE:=hI_ hall.out;obtain ⟨k0,k1,k2,k3,_⟩:=Hbx.out.below hb.out;have hil:=RS.len HK.out.i rfl;clear hall;go_wp2_with fail;go_loopw [97] (fun i wi=>∃ f:Nat,i=.int .i64 f∧f≤k.infos.length∧Hid (∀ j,j<f→fOk k j=true)∧Hid (OS intC 1 3 wi w0.heap.size (.slice (some ⟨g,0,none⟩) 12 capr) (tab12 (RF k 3)))∧Hid (Below w0.heap.size w0 wi)) (fun i _=>k.infos.length - (intOf i).toNat)
      case atStart=>exact ⟨0,rfl,Nat.zero_le _,fun j hj=>absurd hj (Nat.not_lt_zero _),Ho.out,hb.out⟩
      case round =>
        clear k0 k1 k2 k3 Ho ho hb;obtain ⟨f,rfl,hf,hall,ho,hb⟩:=hrel
        by_cases hlt:f<k.infos.length
        · obtain ⟨b,off,cap,ev,hbb,h1,h2,h3⟩:=RInfo.at (RS.below HK.out.i hb.out) hlt;simp only [Value.slice.injEq] at ev;obtain ⟨rfl,_,rfl⟩:=ev;have hfI:(f:Int)<(k.infos.length:Int):=by omega
          have hf12:f<12:=by have:=Hil.out;omega
          have hff:(f:Int)<12:=by omega
          have HB:=hI_ (show fOk k f=false→Kx.kernelOk k=false from fun h=>KF2 hf12 h);have HN:=hI_ (show fOk k f=true→∀ j,j<f+1→fOk k j=true from fun h=>scan_step hall.out h);have Hok:=hI_ (show fOk k f=((!Kx.isTab (Kx.inf k.infos f).kind||Kx.rowOk k.mem k.infos f (Kx.inf k.infos f).kind [ByteArray.empty])&&(Kx.inf k.infos f).refs==((RF k 3 f:Nat):Int)) by rw [RF_all k f Hen.out];rfl);obtain ⟨b6,cap6,e,_,hcg,_⟩:=ho.out.oi.at (k:=f) (by rw [tab12_length];exact hf12);simp only [Value.slice.injEq,Option.some.injEq,Addr.mk.injEq] at e;obtain ⟨⟨rfl,_,_⟩,he12,rfl⟩:=e;clear he12;rw [tab12_get] at hcg;generalize RF k 3 f=rq at hcg Hok;have hgl:=World.block_lt_of_cell? _ _ hcg;generalize Kx.inf k.infos f=y at h1 h2 h3 Hok;obtain ⟨W1,hW1⟩:∃ W1,wr.alloc (.cells #[.int .i64 y.kind,.string y.guard,.int .i64 y.refs] 45)=W1:=⟨_,rfl⟩;have B1:=hI_ (show Below wr.heap.size wr W1 from hW1 ▸ bL_)
          have Bx:=hI_ (show W1.cell? ⟨wr.heap.size,0,none⟩=some (.int .i64 y.kind)∧W1.cell? ⟨wr.heap.size,1,none⟩=some (.string y.guard)∧W1.cell? ⟨wr.heap.size,2,none⟩=some (.int .i64 y.refs) from hW1 ▸ Box3.new wr _ _ _ _);have Bl:=hI_ (show wr.heap.size<W1.heap.size by rw [←hW1];simp);have B01:=hI_ (hb.out.trans (B1.out.mono hb.out.size));have M1:=hI_ (HK.out.m.below B01.out);have I1:=hI_ (RS.below HK.out.i B01.out);have Hbx1:=hI_ (Hbx.out.below B01.out);have O1:=hI_ (ho.out.below B1.out);have Hg1:=hI_ (show W1.cell? ⟨g,f,none⟩=some (.int .i64 (rq:Int))∧g<W1.heap.size from ⟨(B1.out.cell (p:=⟨g,f,none⟩) hgl).trans hcg,Nat.lt_of_lt_of_le hgl B1.out.size⟩);obtain ⟨k0,k1,k2,k3,_⟩:=Hbx.out.below hb.out
          have Hcl:=hI_ (show ∀ wz,Below W1.heap.size W1 wz→(wz.cell? ⟨w.heap.size,0,none⟩=some (.slice am k.mem.length cm)∧wz.cell? ⟨w.heap.size,1,none⟩=some (.slice (some ⟨b,off,none⟩) k.infos.length ci)∧wz.cell? ⟨wr.heap.size,0,none⟩=some (.int .i64 y.kind)∧wz.cell? ⟨wr.heap.size,2,none⟩=some (.int .i64 y.refs)∧wz.cell? ⟨g,f,none⟩=some (.int .i64 (rq:Int))) from fun wz hz =>
            ⟨(hz.cell (p:=⟨w.heap.size,0,none⟩) Hbx1.out.2.2.2.2).trans Hbx1.out.1,(hz.cell (p:=⟨w.heap.size,1,none⟩) Hbx1.out.2.2.2.2).trans Hbx1.out.2.1,(hz.cell (p:=⟨wr.heap.size,0,none⟩) Bl.out).trans Bx.out.1,(hz.cell (p:=⟨wr.heap.size,2,none⟩) Bl.out).trans Bx.out.2.2,(hz.cell (p:=⟨g,f,none⟩) Hg1.out.2).trans Hg1.out.1⟩)
          have S1:=Hcl.out W1 bR_;obtain ⟨W2,hW2⟩:∃ W2,(W1.alloc (.cells #[.string ByteArray.empty] 9)).drew=W2:=⟨_,rfl⟩;have B2:=hI_ (show Below W1.heap.size W1 W2 from hW2 ▸ Below.drewB (bL_));have M2:=hI_ (M1.out.below B2.out);have I2:=hI_ (RS.below I1.out B2.out);have E2:=hI_ (show RStr W2 (.slice (some ⟨W1.heap.size,0,none⟩) 1 1) [ByteArray.empty] from hW2 ▸ RS.one (f:=strC) (sz:=1) ByteArray.empty #[.string ByteArray.empty] rfl W1 9);have hW2':(W1.alloc (.cells #[.string ⟨#[]⟩] 9)).drew=W2:=hW2;have S2:=Hcl.out W2 B2.out;clear hW2 hgl hcg hbb
          cases hre:y.refs==((rq:Nat):Int) with
          | false =>
            have hrn:(y.refs != (rq:Int))=true:=by simpa using hre
            have HF:=hI_ (HB.out (by rw [Hok.out,hre,Bool.and_false]));clear HB HN Hok hre
            cases ht:Kx.isTab y.kind with
            | false =>
              have Ht:=hI_ ht;clear ht;go_wp2_with fail;clear h1 h2 h3 k0 k1 k2 k3 hW1;refine wp_region_held_drew (S:=(fun wz=>wz.cell? ⟨w.heap.size,0,none⟩=some (.slice am k.mem.length cm)∧wz.cell? ⟨w.heap.size,1,none⟩=some (.slice (some ⟨b,off,none⟩) k.infos.length ci)∧wz.cell? ⟨wr.heap.size,0,none⟩=some (.int .i64 y.kind)∧wz.cell? ⟨wr.heap.size,2,none⟩=some (.int .i64 y.refs)∧wz.cell? ⟨g,f,none⟩=some (.int .i64 (rq:Int)))) (by kernel_rfl) (by first | assumption | go_keep) (fun hHeld=>?_)
              refine tH 0 ?_;refine tH 1 ?_;refine rH 2 (fun K hK=>?_)
              (rw [if_pos (by rfl)];go_simp;go_at_call 41;refine (isTable_c _ _).mono ?_;rintro e w' ⟨rfl,rfl⟩;rw [Ht.out];go_wp2_with fail)
              refine hK.out _ _ ?_ (fun hHeld=>?_)
              · first | assumption | go_keep
              clear hK K;refine nH ?_;refine tH 3 ?_;refine sH 4 ?_;refine sH 5 ?_;refine sH 6 ?_;refine sH 7 ?_;refine sH 8 ?_;refine sH 9 ?_;refine sH 10 ?_;refine sH 11 ?_;refine sH 12 ?_;refine sH 13 ?_;refine tH 14 ?_;refine tH 15 ?_;refine tH 16 ?_;refine tH 17 ?_;refine tH 18 ?_;refine tH 19 ?_;refine tH 20 ?_;refine tH 21 ?_;refine tH 22 ?_;refine tH 23 ?_;refine wpAnyH_done (by kernel_rfl) ?_ _;have Hb9:=hI_ (B01.out.trans ((show Below W1.heap.size W1 W1.drew from ⟨rfl,rfl,rfl,Nat.le_refl _,fun _ _=>rfl⟩).mono B01.out.size));have O9:=hI_ (O1.out.below (show Below W1.heap.size W1 W1.drew from ⟨rfl,rfl,rfl,Nat.le_refl _,fun _ _=>rfl⟩));clear S1 S2;go_wp2_with fail;go_ret;exact ⟨ret_bool HF.out.symm,Hw0.out.trans (Hb9.out.mono Hw0.out.size)⟩
            | true =>
              have hkd:=hI_ (Kx.isTab_iff.1 ht);have Ht:=hI_ ht;clear ht
              cases hq:Kx.rowOk k.mem k.infos f y.kind [ByteArray.empty] with
              | false =>
                have Hq:=hI_ hq;clear hq;go_wp2_with fail;clear h1 h2 h3 k0 k1 k2 k3 hW1;refine wp_region_held_drew (S:=(fun wz=>wz.cell? ⟨w.heap.size,0,none⟩=some (.slice am k.mem.length cm)∧wz.cell? ⟨w.heap.size,1,none⟩=some (.slice (some ⟨b,off,none⟩) k.infos.length ci)∧wz.cell? ⟨wr.heap.size,0,none⟩=some (.int .i64 y.kind)∧wz.cell? ⟨wr.heap.size,2,none⟩=some (.int .i64 y.refs)∧wz.cell? ⟨g,f,none⟩=some (.int .i64 (rq:Int)))) (by kernel_rfl) (by first | assumption | go_keep) (fun hHeld=>?_)
                refine tH 0 ?_;refine tH 1 ?_;refine rH 2 (fun K hK=>?_)
                (rw [if_pos (by rfl)];go_simp;go_at_call 41;refine (isTable_c _ _).mono ?_;rintro e w' ⟨rfl,rfl⟩;rw [Ht.out];go_wp2_with fail)
                refine hK.out _ _ ?_ (fun hHeld=>?_)
                · first | assumption | go_keep
                clear hK K;refine nH ?_;refine tH 3 ?_;refine tH 4 ?_;refine tH 5 ?_;refine tH 6 ?_;refine tH 7 ?_;refine tH 8 ?_;refine tH 9 ?_;refine tH 10 ?_;refine rH 11 (fun K hK=>?_)
                (rw [if_pos (by rfl)];go_simp)
                refine hK.out _ _ ?_ (fun hHeld=>?_)
                · first | assumption | go_keep
                clear hK K;refine nH ?_;refine rH 12 (fun K hK=>?_)
                (rw [if_pos (by rfl)];go_simp;go_at_call 42;refine (good_c k.mem k.infos f y.kind [ByteArray.empty] _ _ _ _ M2.out Hm.out I2.out Hil.out E2.out hkd.out hf12).mono ?_;rintro e w3 ⟨rfl,hb3'⟩;rw [Hq.out];have hb3:=B2.out.trans (hb3'.mono B2.out.size);have hc3:=Hcl.out w3 hb3;go_wp2_with fail)
                refine hK.out _ _ ?_ (fun hHeld=>?_)
                · first | assumption | go_keep
                clear hK K;refine nH ?_;refine tH 13 ?_;refine tH 14 ?_;refine tH 15 ?_;refine sH 16 ?_;refine sH 17 ?_;refine sH 18 ?_;refine sH 19 ?_;refine sH 20 ?_;refine sH 21 ?_;refine sH 22 ?_;refine tH 23 ?_;refine wpAnyH_done (by kernel_rfl) ?_ _;have Hb9:=hI_ (B01.out.trans (hb3.mono B01.out.size));have O9:=hI_ (O1.out.below hb3);clear S1 S2;go_wp2_with fail;go_ret;exact ⟨ret_bool HF.out.symm,Hw0.out.trans (Hb9.out.mono Hw0.out.size)⟩
              | true =>
                have Hq:=hI_ hq;clear hq;go_wp2_with fail;clear h1 h2 h3 k0 k1 k2 k3 hW1;refine wp_region_held_drew (S:=(fun wz=>wz.cell? ⟨w.heap.size,0,none⟩=some (.slice am k.mem.length cm)∧wz.cell? ⟨w.heap.size,1,none⟩=some (.slice (some ⟨b,off,none⟩) k.infos.length ci)∧wz.cell? ⟨wr.heap.size,0,none⟩=some (.int .i64 y.kind)∧wz.cell? ⟨wr.heap.size,2,none⟩=some (.int .i64 y.refs)∧wz.cell? ⟨g,f,none⟩=some (.int .i64 (rq:Int)))) (by kernel_rfl) (by first | assumption | go_keep) (fun hHeld=>?_)
                refine tH 0 ?_;refine tH 1 ?_;refine rH 2 (fun K hK=>?_)
                (rw [if_pos (by rfl)];go_simp;go_at_call 41;refine (isTable_c _ _).mono ?_;rintro e w' ⟨rfl,rfl⟩;rw [Ht.out];go_wp2_with fail)
                refine hK.out _ _ ?_ (fun hHeld=>?_)
                · first | assumption | go_keep
                clear hK K;refine nH ?_;refine tH 3 ?_;refine tH 4 ?_;refine tH 5 ?_;refine tH 6 ?_;refine tH 7 ?_;refine tH 8 ?_;refine tH 9 ?_;refine tH 10 ?_;refine rH 11 (fun K hK=>?_)
                (rw [if_pos (by rfl)];go_simp)
                refine hK.out _ _ ?_ (fun hHeld=>?_)
                · first | assumption | go_keep
                clear hK K;refine nH ?_;refine rH 12 (fun K hK=>?_)
                (rw [if_pos (by rfl)];go_simp;go_at_call 42;refine (good_c k.mem k.infos f y.kind [ByteArray.empty] _ _ _ _ M2.out Hm.out I2.out Hil.out E2.out hkd.out hf12).mono ?_;rintro e w3 ⟨rfl,hb3'⟩;rw [Hq.out];have hb3:=B2.out.trans (hb3'.mono B2.out.size);have hc3:=Hcl.out w3 hb3;go_wp2_with fail)
                refine hK.out _ _ ?_ (fun hHeld=>?_)
                · first | assumption | go_keep
                clear hK K;refine nH ?_;refine tH 13 ?_;refine tH 14 ?_;refine tH 15 ?_;refine tH 16 ?_;refine tH 17 ?_;refine tH 18 ?_;refine tH 19 ?_;refine tH 20 ?_;refine tH 21 ?_;refine tH 22 ?_;refine tH 23 ?_;refine wpAnyH_done (by kernel_rfl) ?_ _;have Hb9:=hI_ (B01.out.trans (hb3.mono B01.out.size));have O9:=hI_ (O1.out.below hb3);clear S1 S2;go_wp2_with fail;go_ret;exact ⟨ret_bool HF.out.symm,Hw0.out.trans (Hb9.out.mono Hw0.out.size)⟩
          | true =>
            have hrn:(y.refs != (rq:Int))=false:=by simpa using hre
            cases ht:Kx.isTab y.kind with
            | false =>
              have HN2:=hI_ (HN.out (by rw [Hok.out,hre,ht];rfl));have Ht:=hI_ ht;clear ht HB HN Hok hre;go_wp2_with fail;clear h1 h2 h3 k0 k1 k2 k3 hW1;refine wp_region_held_drew (S:=(fun wz=>wz.cell? ⟨w.heap.size,0,none⟩=some (.slice am k.mem.length cm)∧wz.cell? ⟨w.heap.size,1,none⟩=some (.slice (some ⟨b,off,none⟩) k.infos.length ci)∧wz.cell? ⟨wr.heap.size,0,none⟩=some (.int .i64 y.kind)∧wz.cell? ⟨wr.heap.size,2,none⟩=some (.int .i64 y.refs)∧wz.cell? ⟨g,f,none⟩=some (.int .i64 (rq:Int)))) (by kernel_rfl) (by first | assumption | go_keep) (fun hHeld=>?_)
              refine tH 0 ?_;refine tH 1 ?_;refine rH 2 (fun K hK=>?_)
              (rw [if_pos (by rfl)];go_simp;go_at_call 41;refine (isTable_c _ _).mono ?_;rintro e w' ⟨rfl,rfl⟩;rw [Ht.out];go_wp2_with fail)
              refine hK.out _ _ ?_ (fun hHeld=>?_)
              · first | assumption | go_keep
              clear hK K;refine nH ?_;refine tH 3 ?_;refine sH 4 ?_;refine sH 5 ?_;refine sH 6 ?_;refine sH 7 ?_;refine sH 8 ?_;refine sH 9 ?_;refine sH 10 ?_;refine sH 11 ?_;refine sH 12 ?_;refine sH 13 ?_;refine tH 14 ?_;refine tH 15 ?_;refine tH 16 ?_;refine tH 17 ?_;refine tH 18 ?_;refine tH 19 ?_;refine tH 20 ?_;refine tH 21 ?_;refine tH 22 ?_;refine tH 23 ?_;refine wpAnyH_done (by kernel_rfl) ?_ _;have Hb9:=hI_ (B01.out.trans ((show Below W1.heap.size W1 W1.drew from ⟨rfl,rfl,rfl,Nat.le_refl _,fun _ _=>rfl⟩).mono B01.out.size));have O9:=hI_ (O1.out.below (show Below W1.heap.size W1 W1.drew from ⟨rfl,rfl,rfl,Nat.le_refl _,fun _ _=>rfl⟩));clear S1 S2;go_wp2_with fail;go_roundw
              case rel=>exact ⟨f+1,by go_num,by omega,HN2.out,O9.out,Hb9.out⟩
              case measure=>simp [intOf];omega
            | true =>
              have hkd:=hI_ (Kx.isTab_iff.1 ht)
              cases hq:Kx.rowOk k.mem k.infos f y.kind [ByteArray.empty] with
              | false =>
                have HF:=hI_ (HB.out (by rw [Hok.out,ht,hq];rfl));have Hq:=hI_ hq;have Ht:=hI_ ht;clear hq ht HB HN Hok hre;go_wp2_with fail;clear h1 h2 h3 k0 k1 k2 k3 hW1;refine wp_region_held_drew (S:=(fun wz=>wz.cell? ⟨w.heap.size,0,none⟩=some (.slice am k.mem.length cm)∧wz.cell? ⟨w.heap.size,1,none⟩=some (.slice (some ⟨b,off,none⟩) k.infos.length ci)∧wz.cell? ⟨wr.heap.size,0,none⟩=some (.int .i64 y.kind)∧wz.cell? ⟨wr.heap.size,2,none⟩=some (.int .i64 y.refs)∧wz.cell? ⟨g,f,none⟩=some (.int .i64 (rq:Int)))) (by kernel_rfl) (by first | assumption | go_keep) (fun hHeld=>?_)
                refine tH 0 ?_;refine tH 1 ?_;refine rH 2 (fun K hK=>?_)
                (rw [if_pos (by rfl)];go_simp;go_at_call 41;refine (isTable_c _ _).mono ?_;rintro e w' ⟨rfl,rfl⟩;rw [Ht.out];go_wp2_with fail)
                refine hK.out _ _ ?_ (fun hHeld=>?_)
                · first | assumption | go_keep
                clear hK K;refine nH ?_;refine tH 3 ?_;refine tH 4 ?_;refine tH 5 ?_;refine tH 6 ?_;refine tH 7 ?_;refine tH 8 ?_;refine tH 9 ?_;refine tH 10 ?_;refine rH 11 (fun K hK=>?_)
                (rw [if_pos (by rfl)];go_simp)
                refine hK.out _ _ ?_ (fun hHeld=>?_)
                · first | assumption | go_keep
                clear hK K;refine nH ?_;refine rH 12 (fun K hK=>?_)
                (rw [if_pos (by rfl)];go_simp;go_at_call 42;refine (good_c k.mem k.infos f y.kind [ByteArray.empty] _ _ _ _ M2.out Hm.out I2.out Hil.out E2.out hkd.out hf12).mono ?_;rintro e w3 ⟨rfl,hb3'⟩;rw [Hq.out];have hb3:=B2.out.trans (hb3'.mono B2.out.size);have hc3:=Hcl.out w3 hb3;go_wp2_with fail)
                refine hK.out _ _ ?_ (fun hHeld=>?_)
                · first | assumption | go_keep
                clear hK K;refine nH ?_;refine tH 13 ?_;refine tH 14 ?_;refine tH 15 ?_;refine sH 16 ?_;refine sH 17 ?_;refine sH 18 ?_;refine sH 19 ?_;refine sH 20 ?_;refine sH 21 ?_;refine sH 22 ?_;refine tH 23 ?_;refine wpAnyH_done (by kernel_rfl) ?_ _;have Hb9:=hI_ (B01.out.trans (hb3.mono B01.out.size));have O9:=hI_ (O1.out.below hb3);clear S1 S2;go_wp2_with fail;go_ret;exact ⟨ret_bool HF.out.symm,Hw0.out.trans (Hb9.out.mono Hw0.out.size)⟩
              | true =>
                have HN2:=hI_ (HN.out (by rw [Hok.out,hre,ht,hq];rfl));have Hq:=hI_ hq;have Ht:=hI_ ht;clear hq ht HB HN Hok hre;go_wp2_with fail;clear h1 h2 h3 k0 k1 k2 k3 hW1;refine wp_region_held_drew (S:=(fun wz=>wz.cell? ⟨w.heap.size,0,none⟩=some (.slice am k.mem.length cm)∧wz.cell? ⟨w.heap.size,1,none⟩=some (.slice (some ⟨b,off,none⟩) k.infos.length ci)∧wz.cell? ⟨wr.heap.size,0,none⟩=some (.int .i64 y.kind)∧wz.cell? ⟨wr.heap.size,2,none⟩=some (.int .i64 y.refs)∧wz.cell? ⟨g,f,none⟩=some (.int .i64 (rq:Int)))) (by kernel_rfl) (by first | assumption | go_keep) (fun hHeld=>?_)
                refine tH 0 ?_;refine tH 1 ?_;refine rH 2 (fun K hK=>?_)
                (rw [if_pos (by rfl)];go_simp;go_at_call 41;refine (isTable_c _ _).mono ?_;rintro e w' ⟨rfl,rfl⟩;rw [Ht.out];go_wp2_with fail)
                refine hK.out _ _ ?_ (fun hHeld=>?_)
                · first | assumption | go_keep
                clear hK K;refine nH ?_;refine tH 3 ?_;refine tH 4 ?_;refine tH 5 ?_;refine tH 6 ?_;refine tH 7 ?_;refine tH 8 ?_;refine tH 9 ?_;refine tH 10 ?_;refine rH 11 (fun K hK=>?_)
                (rw [if_pos (by rfl)];go_simp)
                refine hK.out _ _ ?_ (fun hHeld=>?_)
                · first | assumption | go_keep
                clear hK K;refine nH ?_;refine rH 12 (fun K hK=>?_)
                (rw [if_pos (by rfl)];go_simp;go_at_call 42;refine (good_c k.mem k.infos f y.kind [ByteArray.empty] _ _ _ _ M2.out Hm.out I2.out Hil.out E2.out hkd.out hf12).mono ?_;rintro e w3 ⟨rfl,hb3'⟩;rw [Hq.out];have hb3:=B2.out.trans (hb3'.mono B2.out.size);have hc3:=Hcl.out w3 hb3;go_wp2_with fail)
                refine hK.out _ _ ?_ (fun hHeld=>?_)
                · first | assumption | go_keep
                clear hK K;refine nH ?_;refine tH 13 ?_;refine tH 14 ?_;refine tH 15 ?_;refine tH 16 ?_;refine tH 17 ?_;refine tH 18 ?_;refine tH 19 ?_;refine tH 20 ?_;refine tH 21 ?_;refine tH 22 ?_;refine tH 23 ?_;refine wpAnyH_done (by kernel_rfl) ?_ _;have Hb9:=hI_ (B01.out.trans (hb3.mono B01.out.size));have O9:=hI_ (O1.out.below hb3);clear S1 S2;go_wp2_with fail;go_roundw
                case rel=>exact ⟨f+1,by go_num,by omega,HN2.out,O9.out,Hb9.out⟩
                case measure=>simp [intOf];omega
        · have hf12:f=12:=by have:=Hil.out;omega
          have HFf:=hI_ (show ∀ j,j<12→fOk k j=true from fun j hj=>hall.out j (by omega))
          clear hf12;obtain ⟨k0,k1,k2,k3,_⟩:=Hbx.out.below hb.out;have Hro:=hI_ (show ∀ e,e<k.envs.length→(Kx.envAt k.envs e).root≤11 from fun e he=>by
            have h2:=HE.out e (by rw [←Hen.out];exact he);unfold eOk Kx.envOk at h2;simp only [Bool.and_eq_true] at h2;exact (Kx.inR_true.1 h2.1.1.2).2)
          clear hall ho hil;go_wp2_with fail;go_loopw [130] (fun i wi=>∃ q:Nat,i=.int .i64 q∧q≤k.cache.length∧Hid (∀ j,j<q→tOk k j=true)∧Hid (Below w0.heap.size w0 wi)) (fun i _=>k.cache.length - (intOf i).toNat)
          case atStart=>exact ⟨0,rfl,Nat.zero_le _,fun j hj=>absurd hj (Nat.not_lt_zero _),hb.out⟩
          case round =>
            clear k0 k1 k2 k3 hb;obtain ⟨q,rfl,hq,hall,hb⟩:=hrel
            by_cases hlt:q<k.cache.length
            · obtain ⟨k0,k1,k2,k3,hbl⟩:=Hbx.out.below hb.out;obtain ⟨b,off,cap,ev,hbb,h1,h2,h3,h4⟩:=RCached.at (RS.below HK.out.c hb.out) hlt;simp only [Value.slice.injEq] at ev;obtain ⟨rfl,_,rfl⟩:=ev;have hlI:(q:Int)<(k.cache.length:Int):=by omega
              have HB:=hI_ (show tOk k q=false→Kx.kernelOk k=false from fun h=>KF3 hlt h);have HN:=hI_ (show tOk k q=true→∀ j,j<q+1→tOk k j=true from fun h=>scan_step hall.out h);have Hok:=hI_ (show tOk k q=Kx.cachedTrue k (k.cache.getD q Kx.Cached.zero) from rfl);have hxo:=cachedOk_iff.1 (cacheOk_at Hco.out hlt);generalize k.cache.getD q Kx.Cached.zero=x at h1 h2 h3 h4 Hok hxo;obtain ⟨xe,xp,xf,xw⟩:=x;obtain ⟨⟨he0,he2⟩,⟨hp0,hp15⟩,_⟩:=hxo;dsimp only at h1 h2 h3 h4 he0 he2 hp0 hp15;obtain ⟨e0,rfl⟩:=Int.eq_ofNat_of_zero_le he0;obtain ⟨p0,rfl⟩:=Int.eq_ofNat_of_zero_le hp0;have he3:e0<k.envs.length:=by rw [Hen.out];omega
              have heI:(e0:Int)<(k.envs.length:Int):=by omega
              obtain ⟨b2,off2,cap2,u2,ev,hb2,_,h6,_⟩:=(HK.out.e.below hb.out).at he3;simp only [Value.slice.injEq] at ev;obtain ⟨rfl,_,rfl⟩:=ev;have Hr11:=hI_ (Hro.out e0 he3);have hok2:tOk k q=(!decide ((Kx.envAt k.envs e0).root<0)&&((Kx.walk k.mem (Kx.envAt k.envs e0).root.toNat (4*p0)).2==0&&(Kx.walk k.mem (Kx.envAt k.envs e0).root.toNat (4*p0)).1.1==xf&&(Kx.walk k.mem (Kx.envAt k.envs e0).root.toNat (4*p0)).1.2.2==xw)):=Hok.out;have Hok:=hI_ hok2;generalize (Kx.envAt k.envs e0).root=r at h6 Hok Hr11;obtain ⟨W1,hW1⟩:∃ W1,wr.alloc (.cells #[.int .i64 e0,.int .i64 p0,.int .i64 xf,.bool xw] 33)=W1:=⟨_,rfl⟩;have B1:=hI_ (show Below wr.heap.size wr W1 from hW1 ▸ bL_);have Bx:=hI_ (show Box4 W1 wr.heap.size (.int .i64 e0) (.int .i64 p0) (.int .i64 xf) (.bool xw) from hW1 ▸ Box4.new wr _ _ _ _ 33);have B01:=hI_ (hb.out.trans (B1.out.mono hb.out.size));have M1:=hI_ (HK.out.m.below B01.out)
              have Hbx1:=hI_ (Hbx.out.below B01.out);obtain ⟨c0,c1,c2,c3,_⟩:=Bx.out;obtain ⟨m0,m1,m2,m3,_⟩:=Hbx1.out;have n6:W1.cell? ⟨b2,off2+e0*2+1,none⟩=some (.int .i64 r):=(B1.out.cell (p:=⟨b2,off2+e0*2+1,none⟩) hb2).trans h6;clear hbl hbb hb2 hok2 he0 he2 hp0 h6
              by_cases hneg:r<0
              · have HF:=hI_ (HB.out (by rw [Hok.out,show decide (r<0)=true from by simpa using hneg];rfl));clear HB HN Hok;go_wp2_with fail;go_ret;exact ⟨ret_bool HF.out.symm,Hw0.out.trans (B01.out.mono Hw0.out.size)⟩
              · obtain ⟨x0,rfl⟩:=Int.eq_ofNat_of_zero_le (Int.not_lt.1 hneg);have eM:(p0:Int)*4=((4*p0:Nat):Int):=by omega
                have Hwk:=hI_ (implWalk_c k.mem x0 (4*p0) (.slice am k.mem.length cm) W1 M1.out Hm.out (by have:=Hr11.out;omega) (by omega));rw [Int.toNat_natCast,show decide ((x0:Int)<0)=false from by simp,Bool.not_false,Bool.true_and] at Hok;clear hneg;go_wp2_with fail
                try rw [eM]
                refine Hwk.out.mono ?_;rintro e w2 ⟨rfl,hb2⟩;have Bx2:=hI_ (Bx.out.below hb2);have Hb2:=hI_ (B01.out.trans (hb2.mono B01.out.size));clear hb2 Hwk c0 c1 c2 c3 m0 m1 m2 m3 k0 k1 k2 k3 n6 h1 h2 h3 h4 eM;generalize Kx.walk k.mem x0 (4*p0)=res at Hok;obtain ⟨⟨f,a,wt⟩,code⟩:=res;dsimp only at Hok;unfold walkV;dsimp only;obtain ⟨W3,hW3⟩:∃ W3,w2.alloc (.cells #[.int .i64 f,.int .i64 a,.bool wt] 35)=W3:=⟨_,rfl⟩;have B3:=hI_ (show Below w2.heap.size w2 W3 from hW3 ▸ bL_);obtain ⟨p1,p2,p3⟩:=(show W3.cell? ⟨w2.heap.size,0,none⟩=some (.int .i64 f)∧W3.cell? ⟨w2.heap.size,1,none⟩=some (.int .i64 a)∧W3.cell? ⟨w2.heap.size,2,none⟩=some (.bool wt) from hW3 ▸ Box3.new w2 _ _ _ 35);obtain ⟨c0,c1,c2,c3,_⟩:=Bx2.out.below B3.out;have Hb3:=hI_ (Hb2.out.trans (B3.out.mono Hb2.out.size))
                cases hz:code==0 with
                | false =>
                  have HF:=hI_ (HB.out (by rw [Hok.out,hz];rfl));have hz2:(code != 0)=true:=by simpa using hz
                  clear HB HN Hok hz;go_wp2_with fail;go_ret;exact ⟨ret_bool HF.out.symm,Hw0.out.trans (Hb3.out.mono Hw0.out.size)⟩
                | true =>
                  have hz2:code=0:=by simpa using hz
                  subst hz2;clear hz
                  cases hfz:f==xf with
                  | false =>
                    have HF:=hI_ (HB.out (by rw [Hok.out,hfz];rfl));have hz2:(f != xf)=true:=by simpa using hfz
                    clear HB HN Hok hfz;go_wp2_with fail;go_ret;exact ⟨ret_bool HF.out.symm,Hw0.out.trans (Hb3.out.mono Hw0.out.size)⟩
                  | true =>
                    have hz2:(f != xf)=false:=by simpa using hfz
                    cases hwz:wt==xw with
                    | false =>
                      have HF:=hI_ (HB.out (by rw [Hok.out,hwz,Bool.and_false]));have hz3:(!wt==xw)=true:=beq_not1 hwz;clear HB HN Hok hfz hwz;go_wp2_with fail;go_ret;exact ⟨ret_bool HF.out.symm,Hw0.out.trans (Hb3.out.mono Hw0.out.size)⟩
                    | true =>
                      have HN2:=hI_ (HN.out (by rw [Hok.out,hfz,hwz];rfl));have hz3:(!wt==xw)=false:=beq_not2 hwz;clear HB HN Hok hfz hwz;go_wp2_with fail;go_roundw
                      case rel=>exact ⟨q+1,by go_num,by omega,HN2.out,Hb3.out⟩
                      case measure=>simp [intOf];omega
            · have HF:=hI_ (show Kx.kernelOk k=true from KT Hm.out Hi.out Hco.out Hen.out HE.out HFf.out (fun j hj=>hall.out j (by omega)))
              obtain ⟨k0,k1,k2,k3,hbl⟩:=Hbx.out.below hb.out;go_wp2_with fail;go_ret;exact ⟨ret_bool HF.out.symm,Hw0.out.trans (hb.out.mono Hw0.out.size)⟩
end Go.Proofs.YtenebmeaoidnoaaGreatDoor
