/- Contracts: the impl's side: KernelValid. (printed by ki12.py) -/
import Derived.Test.YtliebkfligagnaaGreatDoorKIc
set_option maxHeartbeats 8000000
set_option maxRecDepth 100000
set_option linter.all false
namespace Go.Proofs.YtliebkfligagnaaGreatDoor
open Go.RowKit
def RF (k:Kx.Kernel) (q g:Nat):Nat:=Kx.gI k.mem k.ag g+Kx.eF (k.ah.take q) g
theorem MK (k:Kx.Kernel):dL (RF k 0)=Kx.counts k.mem k.ag:=by
 unfold dL Kx.counts RF Kx.eF;simp
theorem ML (k:Kx.Kernel) (q g:Nat) (h:q<k.ah.length):RF k (q+1) g=RF k q g+if (Kx.au k.ah q).root=(g:Int) then 1 else 0:=by
 unfold RF Kx.eF;have e:Kx.au k.ah q=k.ah[q]:=by simp [Kx.au,h]
 rw [List.take_succ_eq_append_getElem h,List.countP_append,e,List.countP_singleton]
 by_cases hr:k.ah[q].root=(g:Int)
 ·simp [hr];omega
 simp [hr]
theorem Py (k:Kx.Kernel) (g:Nat) (h:k.ah.length=3):RF k 3 g=Kx.gI k.mem k.ag g+Kx.eF k.ah g:=by
 unfold RF;rw [List.take_of_length_le (by omega)]
theorem Rx (k:Kx.Kernel) (hm:Kx.bW k.mem=true) (q g:Nat):RF k q g≤48+q:=by
 have h1:=cnt_le k.mem k.ag (fun f hf=>(mem_row hm hf).2.1) 12 0 g aW
 have h2:cnt k.mem k.ag 12 0 g=Kx.gI k.mem k.ag g:=by rw [Kx.fV];unfold cnt;simp
 have h3:Kx.eF (k.ah.take q) g≤q:=Nat.le_trans List.countP_le_length (List.length_take_le _ _);unfold RF;omega
def GY (k:Kx.Kernel) (f:Nat):Bool:=(!Kx.aX (Kx.inf k.ag f).kind||Kx.rowOk k.mem k.ag f (Kx.inf k.ag f).kind [ByteArray.empty])&&(Kx.inf k.ag f).refs==((Kx.gI k.mem k.ag f+Kx.eF k.ah f:Nat):Int)
theorem MM (k:Kx.Kernel):(Kx.mD k&&Kx.mF k)=(List.range 12).all (GY k):=by
 unfold Kx.mD Kx.mF GY;rw [Bool.eq_iff_iff,Bool.and_eq_true,List.all_eq_true,List.all_eq_true,List.all_eq_true];exact ⟨fun h f hf=>by rw [Bool.and_eq_true];exact ⟨h.1 f hf,h.2 f hf⟩,fun h=>⟨fun f hf=>(Bool.and_eq_true _ _ ▸ h f hf).1,fun f hf=>(Bool.and_eq_true _ _ ▸ h f hf).2⟩⟩
theorem lK (k:Kx.Kernel):Kx.az k=(Kx.bW k.mem&&Kx.bC k.ag&&Kx.dA k.cache&&Kx.iw k&&(List.range 12).all (GY k)&&Kx.gV k):=by
 rw [←MM];unfold Kx.az;simp only [Bool.and_assoc]
theorem ZI {k:Kx.Kernel} {q:Nat} (hq:q<k.ah.length) (h:Ah k q=false):Kx.az k=false:=by
 have:Kx.iw k=false:=by
  unfold Kx.iw;rw [oZ,Bool.and_eq_false_iff,List.all_eq_false];exact .inl ⟨q,by simpa using hq,by rw [h];simp⟩
 rw [lK,this];simp
theorem ZJ {k:Kx.Kernel} {f:Nat} (hf:f<12) (h:GY k f=false):Kx.az k=false:=by
 have:(List.range 12).all (GY k)=false:=by
  rw [List.all_eq_false];exact ⟨f,by simpa using hf,by rw [h];simp⟩
 rw [lK,this];simp
theorem ZK {k:Kx.Kernel} {q:Nat} (hq:q<k.cache.length) (h:Dj k q=false):Kx.az k=false:=by
 have:Kx.gV k=false:=by
  rw [xK,List.all_eq_false];exact ⟨q,by simpa using hq,by rw [h];simp⟩
 rw [lK,this];simp
theorem KT {k:Kx.Kernel} (h1:Kx.bW k.mem=true) (h2:Kx.bC k.ag=true) (h3:Kx.dA k.cache=true) (h4:k.ah.length=3) (h5:∀ j,j<3→Ah k j=true) (h6:∀ j,j<12→GY k j=true) (h7:∀ j,j<k.cache.length→Dj k j=true):Kx.az k=true:=by
 have e1:Kx.iw k=true:=by
  unfold Kx.iw;rw [oZ,Bool.and_eq_true,List.all_eq_true,h4];exact ⟨fun j hj=>h5 j (by simpa using hj),by simp⟩
 have e2:(List.range 12).all (GY k)=true:=by rw [List.all_eq_true];exact fun j hj=>h6 j (by simpa using hj)
 have e3:Kx.gV k=true:=by rw [xK,List.all_eq_true];exact fun j hj=>h7 j (by simpa using hj)
 rw [lK,h1,h2,h3,e1,e2,e3];rfl
theorem mX (k:Kx.Kernel) (vm vi ve vc:Value) (w:World) (h:RK w vm vi ve vc k) (hs:iQ k) :
  Calls Tryz.prog 36 #[.agg #[vm,vi,ve,vc]] w fun e w'=>e=.returned (.bool (Kx.az k))∧Below w.heap.size w w':=by
 obtain ⟨w0,hw0⟩:∃ w0,w.alloc (.cells #[vm,vi,ve,vc] 36)=w0:=⟨_,rfl⟩;have dB:=af (show Below w.heap.size w w0 from hw0 ▸ (Below.refl w.heap.size w).alloc aW _);have jF:=af (show kK w0 w.heap.size vm vi ve vc from hw0 ▸ kK.new w vm vi ve vc _);have HK:=af (h.below dB.out);have Hs:=af hs;have HV:=af (lK k);obtain ⟨hel,ae,ce,rfl,_,_⟩:=h.e.len;obtain ⟨ac,cc,rfl,_,_⟩:=RS.val h.c;obtain ⟨ai,ci,rfl,_,_⟩:=RS.val h.i;obtain ⟨_,am,cm,rfl,_,_⟩:=h.m.len;have hcl:=h.c.1;obtain ⟨k0,k1,k2,k3,hbl⟩:=jF.out;clear h hs hbl;go_enter Tryz.func36,Tryz.ntmps36;go_wp2_with fail;clear hw0;refine (kL k.mem _ _ HK.out.m).mono ?_;rintro e w1 ⟨rfl,hb1⟩;have B1:=af hb1;clear hb1;obtain ⟨a0,a1,a2,a3,_⟩:=jF.out.below B1.out;clear k0 k1 k2 k3
 cases hm:Kx.bW k.mem
 ·have HF:=af (show Kx.az k=false by rw [HV.out,hm];rfl);clear hm HV;go_wp2_with fail;go_ret;exact ⟨ak HF.out.symm,dB.out.trans (B1.out.mono dB.out.size)⟩
 have Hm:=af hm;clear hm;go_wp2_with fail;refine (uY k.ag _ _ (RS.below HK.out.i B1.out) Hs.out.1).mono ?_;rintro e w2 ⟨rfl,hb2⟩;have B2:=af (B1.out.trans (hb2.mono B1.out.size));clear hb2;obtain ⟨k0,k1,k2,k3,_⟩:=jF.out.below B2.out;clear a0 a1 a2 a3
 cases hm:Kx.bC k.ag
 ·have HF:=af (show Kx.az k=false by rw [HV.out,hm];simp);clear hm HV;go_wp2_with fail;go_ret;exact ⟨ak HF.out.symm,dB.out.trans (B2.out.mono dB.out.size)⟩
 have Hi:=af hm;clear hm;have ES:=af (show k.ag.length=12 by have:=Hi.out;unfold Kx.bC at this;simp only [Bool.and_eq_true] at this;simpa using this.2);go_wp2_with fail;refine (uZ k.cache _ _ (RS.below HK.out.c B2.out)).mono ?_;rintro e w3 ⟨rfl,hb3⟩;have B3:=af (B2.out.trans (hb3.mono B2.out.size));clear hb3;obtain ⟨a0,a1,a2,a3,_⟩:=jF.out.below B3.out;clear k0 k1 k2 k3
 cases hm:Kx.dA k.cache
 ·have HF:=af (show Kx.az k=false by rw [HV.out,hm];simp);clear hm HV;go_wp2_with fail;go_ret;exact ⟨ak HF.out.symm,dB.out.trans (B3.out.mono dB.out.size)⟩
 have QY:=af hm;clear hm
 by_cases h3:k.ah.length=3
 rotate_left
 ·have HF:=af (show Kx.az k=false by rw [HV.out];unfold Kx.iw;simp [h3]);have hne:((k.ah.length:Int) != 3)=true:=by rw [bne_iff_ne];omega
  clear h3 HV;go_wp2_with fail;go_ret;exact ⟨ak HF.out.symm,dB.out.trans (B3.out.mono dB.out.size)⟩
 have hne:((k.ah.length:Int) != 3)=false:=by rw [bne_eq_false_iff_eq];omega
 have L_:=af h3;clear h3;go_wp2_with fail;refine (GZ k.mem k.ag _ _ _ (HK.out.m.below B3.out) Hm.out (RS.below HK.out.i B3.out) ES.out).mono ?_;rintro e w4 ⟨u4,rfl,iV,hb4⟩;have B4:=af (B3.out.trans (hb4.mono B3.out.size));have Ju:=iV.mono B3.out.size;rw [←MK] at Ju;obtain ⟨g,Ry,rfl,hg,_,_⟩:=Ju.at (k:=0) (by rw [dH];omega);rw [dH] at Ju ⊢;have kH:=af Ju.os;have Hg:=af hg;clear iV Ju hb4 hg;obtain ⟨k0,k1,k2,k3,_⟩:=jF.out.below B4.out;clear a0 a1 a2 a3 HV;go_wp2_with fail;go_loopw [43] (fun i wr=>∃ q:Nat,i=.int .i64 q∧q≤k.ah.length∧Hid (∀ j,j<q→Ah k j=true)∧Hid (OS iR 1 3 wr w0.heap.size (.slice (some ⟨g,0,none⟩) 12 Ry) (dL (RF k q)))∧Hid (Below w0.heap.size w0 wr)) (fun i _=>k.ah.length - (intOf i).toNat)
 case atStart=>exact ⟨0,rfl,Nat.zero_le _,fun j hj=>absurd hj (Nat.not_lt_zero _),kH.out,B4.out⟩
 case round =>
  clear k0 k1 k2 k3 kH B4 B3 B2 B1;obtain ⟨q,rfl,hq,hall,ho,hb⟩:=hrel
  by_cases hlt:q<k.ah.length
  ·obtain ⟨b,off,cap,u,ev,hbb,h1,h2,hR⟩:=(HK.out.e.below hb.out).at hlt;simp only [Value.slice.injEq] at ev;obtain ⟨rfl,_,rfl⟩:=ev;have kQ:(q:Int)<(k.ah.length:Int):=by omega
   have hq3:q<3:=by have:=L_.out;omega
   have HR:=af hR;have uf:=af (Hs.out.2 q hlt);have HB:=af (show Ah k q=false→Kx.az k=false from fun h=>ZI hlt h);have HN:=af (show Ah k q=true→∀ j,j<q+1→Ah k j=true from fun h=>fF hall.out h);have bF:=af (show Ah k q=(Kx.aS (Kx.au k.ah q).aB&&Kx.bK (Kx.au k.ah q).root (-1) 11&&(decide ((Kx.au k.ah q).root<0)||(Kx.inf k.ag (Kx.au k.ah q).root.toNat).kind==3)&&Kx.allowed k.ag (Kx.reach k.mem (Kx.au k.ah q).root) (Kx.au k.ah q).aB) from rfl);have jU:=af (fun g=>ML k q g hlt);have MN:=af (fun g=>Rx k Hm.out q g);clear hR;generalize (Kx.au k.ah q).root=r at h2 bF jU;generalize (Kx.au k.ah q).aB=l at HR uf bF;obtain ⟨x,y,hx,hv1,hv2⟩:=RS.val HR.out;subst hx;clear hv1 hv2;obtain ⟨W1,hW1⟩:∃ W1,wr.alloc (.cells #[.slice x l.length y,.int .i64 r] 64)=W1:=⟨_,rfl⟩
   have B1:=af (show Below wr.heap.size wr W1 from hW1 ▸ dm);have Bx:=af (show W1.cell? ⟨wr.heap.size,0,none⟩=some (.slice x l.length y)∧W1.cell? ⟨wr.heap.size,1,none⟩=some (.int .i64 r)∧wr.heap.size<W1.heap.size from hW1 ▸ Pz.new wr (.slice x l.length y) (.int .i64 r) 64);have jH:=af (hb.out.trans (B1.out.mono hb.out.size));have M1:=af (HK.out.m.below jH.out);have I1:=af (RS.below HK.out.i jH.out);have R1:=af (RS.below HR.out B1.out);have dS:=af (jF.out.below jH.out);have O1:=af (ho.out.below B1.out);obtain ⟨k0,k1,k2,k3,_⟩:=jF.out.below hb.out
   cases oU:Kx.aS l with
   | false =>
    have HF:=af (HB.out (by rw [bF.out,oU];rfl));have nZ:=af oU;clear oU HB HN bF;have ik:=af (show ∀ wz,Below W1.heap.size W1 wz→(wz.cell? ⟨w.heap.size,0,none⟩=some (.slice am k.mem.length cm)∧wz.cell? ⟨w.heap.size,1,none⟩=some (.slice ai k.ag.length ci)∧wz.cell? ⟨wr.heap.size,0,none⟩=some (.slice x l.length y)∧wz.cell? ⟨wr.heap.size,1,none⟩=some (.int .i64 r)) from fun wz hz =>
     ⟨(hz.cell (p:=⟨w.heap.size,0,none⟩) dS.out.2.2.2.2).trans dS.out.1,(hz.cell (p:=⟨w.heap.size,1,none⟩) dS.out.2.2.2.2).trans dS.out.2.1,(hz.cell (p:=⟨wr.heap.size,0,none⟩) Bx.out.2.2).trans Bx.out.1,(hz.cell (p:=⟨wr.heap.size,1,none⟩) Bx.out.2.2).trans Bx.out.2.1⟩)
    have S1:=ik.out W1 fZ;go_wp2_with fail;clear h1 h2 k0 k1 k2 k3 hW1;refine wp_region_held_drew (S:=(fun wz=>wz.cell? ⟨w.heap.size,0,none⟩=some (.slice am k.mem.length cm)∧wz.cell? ⟨w.heap.size,1,none⟩=some (.slice ai k.ag.length ci)∧wz.cell? ⟨wr.heap.size,0,none⟩=some (.slice x l.length y)∧wz.cell? ⟨wr.heap.size,1,none⟩=some (.int .i64 r))) (by kernel_rfl) (by first | assumption | go_keep) (fun hHeld=>?_)
    refine tH 0 ?_;refine tH 1 ?_;refine rH 2 (fun K hK=>?_)
    (rw [if_pos (by rfl)];go_simp;go_at_call 92;refine (eG l _ W1.drew (show dK W1.drew _ _ from R1.out) uf.out).mono ?_;rintro e w2 ⟨rfl,hb2'⟩;rw [nZ.out];have hb2:=Below.gG hb2';have hc2:=ik.out w2 hb2;go_wp2_with fail)
    refine hK.out _ _ ?_ (fun hHeld=>?_)
    ·first | assumption | go_keep
    clear hK K;refine nH ?_;refine tH 3 ?_;refine tH 4 ?_;refine sH 5 ?_;refine sH 6 ?_;refine sH 7 ?_;refine sH 8 ?_;refine sH 9 ?_;refine sH 10 ?_;refine sH 11 ?_;refine sH 12 ?_;refine sH 13 ?_;refine sH 14 ?_;refine sH 15 ?_;refine sH 16 ?_;refine sH 17 ?_;refine sH 18 ?_;refine sH 19 ?_;refine sH 20 ?_;refine sH 21 ?_;refine sH 22 ?_;refine sH 23 ?_;refine tH 24 ?_;refine tH 25 ?_;refine sH 26 ?_;refine sH 27 ?_;refine sH 28 ?_;refine sH 29 ?_;refine sH 30 ?_;refine sH 31 ?_;refine sH 32 ?_;refine sH 33 ?_;refine sH 34 ?_;refine tH 35 ?_;refine wpAnyH_done (by kernel_rfl) ?_ _;have kV:=af (jH.out.trans (hb2.mono jH.out.size));have O9:=af (O1.out.below hb2);clear S1;go_wp2_with fail;go_ret;exact ⟨ak HF.out.symm,dB.out.trans (kV.out.mono dB.out.size)⟩
   | true =>
    by_cases hr1:r=-1
    ·subst hr1;have lL:=af (show (-1:Int)≤11 by omega)
     cases hal:Kx.allowed k.ag (Kx.reach k.mem (-1)) l with
     | false =>
      have HF:=af (HB.out (by rw [bF.out,hal,Bool.and_false]));have nZ:=af oU;have Dk:=af hal;clear oU hal HB HN bF;have ik:=af (show ∀ wz,Below W1.heap.size W1 wz→(wz.cell? ⟨w.heap.size,0,none⟩=some (.slice am k.mem.length cm)∧wz.cell? ⟨w.heap.size,1,none⟩=some (.slice ai k.ag.length ci)∧wz.cell? ⟨wr.heap.size,0,none⟩=some (.slice x l.length y)∧wz.cell? ⟨wr.heap.size,1,none⟩=some (.int .i64 (-1))) from fun wz hz =>
       ⟨(hz.cell (p:=⟨w.heap.size,0,none⟩) dS.out.2.2.2.2).trans dS.out.1,(hz.cell (p:=⟨w.heap.size,1,none⟩) dS.out.2.2.2.2).trans dS.out.2.1,(hz.cell (p:=⟨wr.heap.size,0,none⟩) Bx.out.2.2).trans Bx.out.1,(hz.cell (p:=⟨wr.heap.size,1,none⟩) Bx.out.2.2).trans Bx.out.2.1⟩)
      have S1:=ik.out W1 fZ;go_wp2_with fail;clear h1 h2 k0 k1 k2 k3 hW1;refine wp_region_held_drew (S:=(fun wz=>wz.cell? ⟨w.heap.size,0,none⟩=some (.slice am k.mem.length cm)∧wz.cell? ⟨w.heap.size,1,none⟩=some (.slice ai k.ag.length ci)∧wz.cell? ⟨wr.heap.size,0,none⟩=some (.slice x l.length y)∧wz.cell? ⟨wr.heap.size,1,none⟩=some (.int .i64 (-1)))) (by kernel_rfl) (by first | assumption | go_keep) (fun hHeld=>?_)
      refine tH 0 ?_;refine tH 1 ?_;refine rH 2 (fun K hK=>?_)
      (rw [if_pos (by rfl)];go_simp;go_at_call 92;refine (eG l _ W1.drew (show dK W1.drew _ _ from R1.out) uf.out).mono ?_;rintro e w2 ⟨rfl,hb2'⟩;rw [nZ.out];have hb2:=Below.gG hb2';have hc2:=ik.out w2 hb2;go_wp2_with fail)
      refine hK.out _ _ ?_ (fun hHeld=>?_)
      ·first | assumption | go_keep
      clear hK K;refine nH ?_;refine tH 3 ?_;refine tH 4 ?_;refine tH 5 ?_;refine tH 6 ?_;refine tH 7 ?_;refine tH 8 ?_;refine sH 9 ?_;refine sH 10 ?_;refine sH 11 ?_;refine sH 12 ?_;refine sH 13 ?_;refine sH 14 ?_;refine sH 15 ?_;refine sH 16 ?_;refine sH 17 ?_;refine sH 18 ?_;refine sH 19 ?_;refine sH 20 ?_;refine sH 21 ?_;refine sH 22 ?_;refine tH 23 ?_;refine tH 24 ?_;refine tH 25 ?_;refine tH 26 ?_;refine tH 27 ?_;refine tH 28 ?_;refine tH 29 ?_;refine tH 30 ?_;refine tH 31 ?_;refine rH 32 (fun K hK=>?_)
      (rw [if_pos (by rfl)];go_simp;go_at_call 83;refine (og k.mem (-1) _ _ (M1.out.below hb2) Hm.out lL.out).mono ?_;rintro e w3 ⟨u3,rfl,ho3,hb3⟩;have fK:=hb2.trans (hb3.mono hb2.size);have hc3:=ik.out w3 fK;have jJ:=af ho3.ri;clear ho3;go_wp2_with fail)
      refine hK.out _ _ ?_ (fun hHeld=>?_)
      ·first | assumption | go_keep
      clear hK K;refine nH ?_;refine rH 33 (fun K hK=>?_)
      (rw [if_pos (by rfl)];go_simp;go_at_call 93;refine (lH k.ag (Kx.reach k.mem (-1)) l w.heap.size _ _ _ _ (RS.below I1.out fK) jJ.out (RS.below R1.out fK) (fun f hf=>by rw [ES.out];exact jK f hf) hc3.2.1).mono ?_;rintro e w4 ⟨rfl,hb4⟩;rw [Dk.out];have hb5:=fK.trans (hb4.mono fK.size);have hc5:=ik.out w4 hb5;go_wp2_with fail)
      refine hK.out _ _ ?_ (fun hHeld=>?_)
      ·first | assumption | go_keep
      clear hK K;refine nH ?_;refine tH 34 ?_;refine tH 35 ?_;refine wpAnyH_done (by kernel_rfl) ?_ _;have kV:=af (jH.out.trans (hb5.mono jH.out.size));have O9:=af (O1.out.below hb5);clear S1;go_wp2_with fail;go_ret;exact ⟨ak HF.out.symm,dB.out.trans (kV.out.mono dB.out.size)⟩
     | true =>
      have ug:=af (HN.out (by rw [bF.out,oU,hal];rfl));have HS2:=af (show dL (RF k (q+1))=dL (RF k q) from gU fun g _=>by rw [jU.out,if_neg (by omega)];rfl)
      have nZ:=af oU;have Dk:=af hal;clear oU hal HB HN bF;have ik:=af (show ∀ wz,Below W1.heap.size W1 wz→(wz.cell? ⟨w.heap.size,0,none⟩=some (.slice am k.mem.length cm)∧wz.cell? ⟨w.heap.size,1,none⟩=some (.slice ai k.ag.length ci)∧wz.cell? ⟨wr.heap.size,0,none⟩=some (.slice x l.length y)∧wz.cell? ⟨wr.heap.size,1,none⟩=some (.int .i64 (-1))) from fun wz hz =>
       ⟨(hz.cell (p:=⟨w.heap.size,0,none⟩) dS.out.2.2.2.2).trans dS.out.1,(hz.cell (p:=⟨w.heap.size,1,none⟩) dS.out.2.2.2.2).trans dS.out.2.1,(hz.cell (p:=⟨wr.heap.size,0,none⟩) Bx.out.2.2).trans Bx.out.1,(hz.cell (p:=⟨wr.heap.size,1,none⟩) Bx.out.2.2).trans Bx.out.2.1⟩)
      have S1:=ik.out W1 fZ;go_wp2_with fail;clear h1 h2 k0 k1 k2 k3 hW1;refine wp_region_held_drew (S:=(fun wz=>wz.cell? ⟨w.heap.size,0,none⟩=some (.slice am k.mem.length cm)∧wz.cell? ⟨w.heap.size,1,none⟩=some (.slice ai k.ag.length ci)∧wz.cell? ⟨wr.heap.size,0,none⟩=some (.slice x l.length y)∧wz.cell? ⟨wr.heap.size,1,none⟩=some (.int .i64 (-1)))) (by kernel_rfl) (by first | assumption | go_keep) (fun hHeld=>?_)
      refine tH 0 ?_;refine tH 1 ?_;refine rH 2 (fun K hK=>?_)
      (rw [if_pos (by rfl)];go_simp;go_at_call 92;refine (eG l _ W1.drew (show dK W1.drew _ _ from R1.out) uf.out).mono ?_;rintro e w2 ⟨rfl,hb2'⟩;rw [nZ.out];have hb2:=Below.gG hb2';have hc2:=ik.out w2 hb2;go_wp2_with fail)
      refine hK.out _ _ ?_ (fun hHeld=>?_)
      ·first | assumption | go_keep
      clear hK K;refine nH ?_;refine tH 3 ?_;refine tH 4 ?_;refine tH 5 ?_;refine tH 6 ?_;refine tH 7 ?_;refine tH 8 ?_;refine sH 9 ?_;refine sH 10 ?_;refine sH 11 ?_;refine sH 12 ?_;refine sH 13 ?_;refine sH 14 ?_;refine sH 15 ?_;refine sH 16 ?_;refine sH 17 ?_;refine sH 18 ?_;refine sH 19 ?_;refine sH 20 ?_;refine sH 21 ?_;refine sH 22 ?_;refine tH 23 ?_;refine tH 24 ?_;refine tH 25 ?_;refine tH 26 ?_;refine tH 27 ?_;refine tH 28 ?_;refine tH 29 ?_;refine tH 30 ?_;refine tH 31 ?_;refine rH 32 (fun K hK=>?_)
      (rw [if_pos (by rfl)];go_simp;go_at_call 83;refine (og k.mem (-1) _ _ (M1.out.below hb2) Hm.out lL.out).mono ?_;rintro e w3 ⟨u3,rfl,ho3,hb3⟩;have fK:=hb2.trans (hb3.mono hb2.size);have hc3:=ik.out w3 fK;have jJ:=af ho3.ri;clear ho3;go_wp2_with fail)
      refine hK.out _ _ ?_ (fun hHeld=>?_)
      ·first | assumption | go_keep
      clear hK K;refine nH ?_;refine rH 33 (fun K hK=>?_)
      (rw [if_pos (by rfl)];go_simp;go_at_call 93;refine (lH k.ag (Kx.reach k.mem (-1)) l w.heap.size _ _ _ _ (RS.below I1.out fK) jJ.out (RS.below R1.out fK) (fun f hf=>by rw [ES.out];exact jK f hf) hc3.2.1).mono ?_;rintro e w4 ⟨rfl,hb4⟩;rw [Dk.out];have hb5:=fK.trans (hb4.mono fK.size);have hc5:=ik.out w4 hb5;go_wp2_with fail)
      refine hK.out _ _ ?_ (fun hHeld=>?_)
      ·first | assumption | go_keep
      clear hK K;refine nH ?_;refine tH 34 ?_;refine tH 35 ?_;refine wpAnyH_done (by kernel_rfl) ?_ _;have kV:=af (jH.out.trans (hb5.mono jH.out.size));have O9:=af (O1.out.below hb5);clear S1;go_wp2_with fail;go_roundw
      case rel=>exact ⟨q+1,by go_num,by omega,ug.out,by show OS _ _ _ _ _ _ _;rw [HS2.out];exact O9.out,kV.out⟩
      case measure=>simp [intOf];omega
    have hrn:(r != -1)=true:=by simpa using hr1
    cases hfr:Kx.bK r 0 11 with
    | false =>
     have HF:=af (HB.out (by rw [bF.out,show Kx.bK r (-1) 11=false from by rw [Kx.u_] at hfr ⊢;omega];simp));have nZ:=af oU;have G5:=af hfr;clear oU hfr hr1 HB HN bF;have ik:=af (show ∀ wz,Below W1.heap.size W1 wz→(wz.cell? ⟨w.heap.size,0,none⟩=some (.slice am k.mem.length cm)∧wz.cell? ⟨w.heap.size,1,none⟩=some (.slice ai k.ag.length ci)∧wz.cell? ⟨wr.heap.size,0,none⟩=some (.slice x l.length y)∧wz.cell? ⟨wr.heap.size,1,none⟩=some (.int .i64 r)) from fun wz hz =>
      ⟨(hz.cell (p:=⟨w.heap.size,0,none⟩) dS.out.2.2.2.2).trans dS.out.1,(hz.cell (p:=⟨w.heap.size,1,none⟩) dS.out.2.2.2.2).trans dS.out.2.1,(hz.cell (p:=⟨wr.heap.size,0,none⟩) Bx.out.2.2).trans Bx.out.1,(hz.cell (p:=⟨wr.heap.size,1,none⟩) Bx.out.2.2).trans Bx.out.2.1⟩)
     have S1:=ik.out W1 fZ;go_wp2_with fail;clear h1 h2 k0 k1 k2 k3 hW1;refine wp_region_held_drew (S:=(fun wz=>wz.cell? ⟨w.heap.size,0,none⟩=some (.slice am k.mem.length cm)∧wz.cell? ⟨w.heap.size,1,none⟩=some (.slice ai k.ag.length ci)∧wz.cell? ⟨wr.heap.size,0,none⟩=some (.slice x l.length y)∧wz.cell? ⟨wr.heap.size,1,none⟩=some (.int .i64 r))) (by kernel_rfl) (by first | assumption | go_keep) (fun hHeld=>?_)
     refine tH 0 ?_;refine tH 1 ?_;refine rH 2 (fun K hK=>?_)
     (rw [if_pos (by rfl)];go_simp;go_at_call 92;refine (eG l _ W1.drew (show dK W1.drew _ _ from R1.out) uf.out).mono ?_;rintro e w2 ⟨rfl,hb2'⟩;rw [nZ.out];have hb2:=Below.gG hb2';have hc2:=ik.out w2 hb2;go_wp2_with fail)
     refine hK.out _ _ ?_ (fun hHeld=>?_)
     ·first | assumption | go_keep
     clear hK K;refine nH ?_;refine tH 3 ?_;refine tH 4 ?_;refine tH 5 ?_;refine tH 6 ?_;refine tH 7 ?_;refine tH 8 ?_;refine tH 9 ?_;refine tH 10 ?_;refine rH 11 (fun K hK=>?_)
     (rw [if_pos (by rfl)];go_simp;go_at_call 81;refine (jO _ _).mono ?_;rintro e w' ⟨rfl,rfl⟩;rw [G5.out];go_wp2_with fail)
     refine hK.out _ _ ?_ (fun hHeld=>?_)
     ·first | assumption | go_keep
     clear hK K;refine nH ?_;refine tH 12 ?_;refine tH 13 ?_;refine sH 14 ?_;refine sH 15 ?_;refine sH 16 ?_;refine sH 17 ?_;refine sH 18 ?_;refine sH 19 ?_;refine sH 20 ?_;refine sH 21 ?_;refine tH 22 ?_;refine tH 23 ?_;refine tH 24 ?_;refine tH 25 ?_;refine sH 26 ?_;refine sH 27 ?_;refine sH 28 ?_;refine sH 29 ?_;refine sH 30 ?_;refine sH 31 ?_;refine sH 32 ?_;refine sH 33 ?_;refine sH 34 ?_;refine tH 35 ?_;refine wpAnyH_done (by kernel_rfl) ?_ _;have kV:=af (jH.out.trans (hb2.mono jH.out.size));have O9:=af (O1.out.below hb2);clear S1;go_wp2_with fail;go_ret;exact ⟨ak HF.out.symm,dB.out.trans (kV.out.mono dB.out.size)⟩
    | true =>
     have Jv:=Kx.ay.1 hfr;obtain ⟨x0,rfl⟩:=Int.eq_ofNat_of_zero_le Jv.1;have sD:x0<k.ag.length:=by rw [ES.out];omega
     have Oa:(x0:Int)<(k.ag.length:Int):=by omega
     have lL:=af (show (x0:Int)≤11 from Jv.2);have hin:=af (show Kx.bK (x0:Int) (-1) 11=true by rw [Kx.ay];omega);have Vu:x0<12:=by omega
     obtain ⟨bi,oi,ci',e,hbi,g1,_,_⟩:=bV.at I1.out sD;simp only [Value.slice.injEq] at e;obtain ⟨rfl,_,rfl⟩:=e;have PD:=af hbi;rw [Int.toNat_natCast] at bF;generalize (Kx.inf k.ag x0).kind=kd at g1 bF;have Ob:=af g1;have hd0:decide ((x0:Int)<0)=false:=by simp
     rw [hin.out,hd0,Bool.false_or] at bF;clear hbi Jv hd0 g1
     by_cases hk3:kd=3
     ·subst hk3
      cases hal:Kx.allowed k.ag (Kx.reach k.mem (x0:Int)) l with
      | false =>
       have HF:=af (HB.out (by rw [bF.out,hal,Bool.and_false]));have nZ:=af oU;have G5:=af hfr;have Dk:=af hal;clear oU hfr hal hr1 HB HN bF;have ik:=af (show ∀ wz,Below W1.heap.size W1 wz→(wz.cell? ⟨w.heap.size,0,none⟩=some (.slice am k.mem.length cm)∧wz.cell? ⟨w.heap.size,1,none⟩=some (.slice (some ⟨bi,oi,none⟩) k.ag.length ci)∧wz.cell? ⟨wr.heap.size,0,none⟩=some (.slice x l.length y)∧wz.cell? ⟨wr.heap.size,1,none⟩=some (.int .i64 (x0:Int))∧wz.cell? ⟨bi,oi+x0*3,none⟩=some (.int .i64 3)) from fun wz hz =>
        ⟨(hz.cell (p:=⟨w.heap.size,0,none⟩) dS.out.2.2.2.2).trans dS.out.1,(hz.cell (p:=⟨w.heap.size,1,none⟩) dS.out.2.2.2.2).trans dS.out.2.1,(hz.cell (p:=⟨wr.heap.size,0,none⟩) Bx.out.2.2).trans Bx.out.1,(hz.cell (p:=⟨wr.heap.size,1,none⟩) Bx.out.2.2).trans Bx.out.2.1,(hz.cell (p:=⟨bi,oi+x0*3,none⟩) PD.out).trans Ob.out⟩)
       have S1:=ik.out W1 fZ;go_wp2_with fail;clear h1 h2 k0 k1 k2 k3 hW1;refine wp_region_held_drew (S:=(fun wz=>wz.cell? ⟨w.heap.size,0,none⟩=some (.slice am k.mem.length cm)∧wz.cell? ⟨w.heap.size,1,none⟩=some (.slice (some ⟨bi,oi,none⟩) k.ag.length ci)∧wz.cell? ⟨wr.heap.size,0,none⟩=some (.slice x l.length y)∧wz.cell? ⟨wr.heap.size,1,none⟩=some (.int .i64 (x0:Int))∧wz.cell? ⟨bi,oi+x0*3,none⟩=some (.int .i64 3))) (by kernel_rfl) (by first | assumption | go_keep) (fun hHeld=>?_)
       refine tH 0 ?_;refine tH 1 ?_;refine rH 2 (fun K hK=>?_)
       (rw [if_pos (by rfl)];go_simp;go_at_call 92;refine (eG l _ W1.drew (show dK W1.drew _ _ from R1.out) uf.out).mono ?_;rintro e w2 ⟨rfl,hb2'⟩;rw [nZ.out];have hb2:=Below.gG hb2';have hc2:=ik.out w2 hb2;go_wp2_with fail)
       refine hK.out _ _ ?_ (fun hHeld=>?_)
       ·first | assumption | go_keep
       clear hK K;refine nH ?_;refine tH 3 ?_;refine tH 4 ?_;refine tH 5 ?_;refine tH 6 ?_;refine tH 7 ?_;refine tH 8 ?_;refine tH 9 ?_;refine tH 10 ?_;refine rH 11 (fun K hK=>?_)
       (rw [if_pos (by rfl)];go_simp;go_at_call 81;refine (jO _ _).mono ?_;rintro e w' ⟨rfl,rfl⟩;rw [G5.out];go_wp2_with fail)
       refine hK.out _ _ ?_ (fun hHeld=>?_)
       ·first | assumption | go_keep
       clear hK K;refine nH ?_;refine tH 12 ?_;refine tH 13 ?_;refine tH 14 ?_;refine tH 15 ?_;refine tH 16 ?_;refine tH 17 ?_;refine tH 18 ?_;refine tH 19 ?_;refine tH 20 ?_;refine tH 21 ?_;refine tH 22 ?_;refine tH 23 ?_;refine tH 24 ?_;refine tH 25 ?_;refine tH 26 ?_;refine tH 27 ?_;refine tH 28 ?_;refine tH 29 ?_;refine tH 30 ?_;refine tH 31 ?_;refine rH 32 (fun K hK=>?_)
       (rw [if_pos (by rfl)];go_simp;go_at_call 83;refine (og k.mem (x0:Int) _ _ (M1.out.below hb2) Hm.out lL.out).mono ?_;rintro e w3 ⟨u3,rfl,ho3,hb3⟩;have fK:=hb2.trans (hb3.mono hb2.size);have hc3:=ik.out w3 fK;have jJ:=af ho3.ri;clear ho3;go_wp2_with fail)
       refine hK.out _ _ ?_ (fun hHeld=>?_)
       ·first | assumption | go_keep
       clear hK K;refine nH ?_;refine rH 33 (fun K hK=>?_)
       (rw [if_pos (by rfl)];go_simp;go_at_call 93;refine (lH k.ag (Kx.reach k.mem (x0:Int)) l w.heap.size _ _ _ _ (RS.below I1.out fK) jJ.out (RS.below R1.out fK) (fun f hf=>by rw [ES.out];exact jK f hf) hc3.2.1).mono ?_;rintro e w4 ⟨rfl,hb4⟩;rw [Dk.out];have hb5:=fK.trans (hb4.mono fK.size);have hc5:=ik.out w4 hb5;go_wp2_with fail)
       refine hK.out _ _ ?_ (fun hHeld=>?_)
       ·first | assumption | go_keep
       clear hK K;refine nH ?_;refine tH 34 ?_;refine tH 35 ?_;refine wpAnyH_done (by kernel_rfl) ?_ _;have kV:=af (jH.out.trans (hb5.mono jH.out.size));have O9:=af (O1.out.below hb5);clear S1;go_wp2_with fail;go_ret;exact ⟨ak HF.out.symm,dB.out.trans (kV.out.mono dB.out.size)⟩
      | true =>
       have ug:=af (HN.out (by rw [bF.out,oU,hal];rfl));have nZ:=af oU;have G5:=af hfr;have Dk:=af hal;clear oU hfr hal hr1 HB HN bF;have ik:=af (show ∀ wz,Below W1.heap.size W1 wz→(wz.cell? ⟨w.heap.size,0,none⟩=some (.slice am k.mem.length cm)∧wz.cell? ⟨w.heap.size,1,none⟩=some (.slice (some ⟨bi,oi,none⟩) k.ag.length ci)∧wz.cell? ⟨wr.heap.size,0,none⟩=some (.slice x l.length y)∧wz.cell? ⟨wr.heap.size,1,none⟩=some (.int .i64 (x0:Int))∧wz.cell? ⟨bi,oi+x0*3,none⟩=some (.int .i64 3)) from fun wz hz =>
        ⟨(hz.cell (p:=⟨w.heap.size,0,none⟩) dS.out.2.2.2.2).trans dS.out.1,(hz.cell (p:=⟨w.heap.size,1,none⟩) dS.out.2.2.2.2).trans dS.out.2.1,(hz.cell (p:=⟨wr.heap.size,0,none⟩) Bx.out.2.2).trans Bx.out.1,(hz.cell (p:=⟨wr.heap.size,1,none⟩) Bx.out.2.2).trans Bx.out.2.1,(hz.cell (p:=⟨bi,oi+x0*3,none⟩) PD.out).trans Ob.out⟩)
       have S1:=ik.out W1 fZ;go_wp2_with fail;clear h1 h2 k0 k1 k2 k3 hW1;refine wp_region_held_drew (S:=(fun wz=>wz.cell? ⟨w.heap.size,0,none⟩=some (.slice am k.mem.length cm)∧wz.cell? ⟨w.heap.size,1,none⟩=some (.slice (some ⟨bi,oi,none⟩) k.ag.length ci)∧wz.cell? ⟨wr.heap.size,0,none⟩=some (.slice x l.length y)∧wz.cell? ⟨wr.heap.size,1,none⟩=some (.int .i64 (x0:Int))∧wz.cell? ⟨bi,oi+x0*3,none⟩=some (.int .i64 3))) (by kernel_rfl) (by first | assumption | go_keep) (fun hHeld=>?_)
       refine tH 0 ?_;refine tH 1 ?_;refine rH 2 (fun K hK=>?_)
       (rw [if_pos (by rfl)];go_simp;go_at_call 92;refine (eG l _ W1.drew (show dK W1.drew _ _ from R1.out) uf.out).mono ?_;rintro e w2 ⟨rfl,hb2'⟩;rw [nZ.out];have hb2:=Below.gG hb2';have hc2:=ik.out w2 hb2;go_wp2_with fail)
       refine hK.out _ _ ?_ (fun hHeld=>?_)
       ·first | assumption | go_keep
       clear hK K;refine nH ?_;refine tH 3 ?_;refine tH 4 ?_;refine tH 5 ?_;refine tH 6 ?_;refine tH 7 ?_;refine tH 8 ?_;refine tH 9 ?_;refine tH 10 ?_;refine rH 11 (fun K hK=>?_)
       (rw [if_pos (by rfl)];go_simp;go_at_call 81;refine (jO _ _).mono ?_;rintro e w' ⟨rfl,rfl⟩;rw [G5.out];go_wp2_with fail)
       refine hK.out _ _ ?_ (fun hHeld=>?_)
       ·first | assumption | go_keep
       clear hK K;refine nH ?_;refine tH 12 ?_;refine tH 13 ?_;refine tH 14 ?_;refine tH 15 ?_;refine tH 16 ?_;refine tH 17 ?_;refine tH 18 ?_;refine tH 19 ?_;refine tH 20 ?_;refine tH 21 ?_;refine tH 22 ?_;refine tH 23 ?_;refine tH 24 ?_;refine tH 25 ?_;refine tH 26 ?_;refine tH 27 ?_;refine tH 28 ?_;refine tH 29 ?_;refine tH 30 ?_;refine tH 31 ?_;refine rH 32 (fun K hK=>?_)
       (rw [if_pos (by rfl)];go_simp;go_at_call 83;refine (og k.mem (x0:Int) _ _ (M1.out.below hb2) Hm.out lL.out).mono ?_;rintro e w3 ⟨u3,rfl,ho3,hb3⟩;have fK:=hb2.trans (hb3.mono hb2.size);have hc3:=ik.out w3 fK;have jJ:=af ho3.ri;clear ho3;go_wp2_with fail)
       refine hK.out _ _ ?_ (fun hHeld=>?_)
       ·first | assumption | go_keep
       clear hK K;refine nH ?_;refine rH 33 (fun K hK=>?_)
       (rw [if_pos (by rfl)];go_simp;go_at_call 93;refine (lH k.ag (Kx.reach k.mem (x0:Int)) l w.heap.size _ _ _ _ (RS.below I1.out fK) jJ.out (RS.below R1.out fK) (fun f hf=>by rw [ES.out];exact jK f hf) hc3.2.1).mono ?_;rintro e w4 ⟨rfl,hb4⟩;rw [Dk.out];have hb5:=fK.trans (hb4.mono fK.size);have hc5:=ik.out w4 hb5;go_wp2_with fail)
       refine hK.out _ _ ?_ (fun hHeld=>?_)
       ·first | assumption | go_keep
       clear hK K;refine nH ?_;refine tH 34 ?_;refine tH 35 ?_;refine wpAnyH_done (by kernel_rfl) ?_ _;have kV:=af (jH.out.trans (hb5.mono jH.out.size));have O9:=af (O1.out.below hb5);clear S1;obtain ⟨b6,cap6,e,_,hcg,hfg⟩:=O9.out.oi.at (k:=x0) (by rw [dH];exact Vu);simp only [Value.slice.injEq,Option.some.injEq,Addr.mk.injEq] at e;obtain ⟨⟨rfl,_,_⟩,yc,rfl⟩:=e;clear yc;rw [jP] at hcg;have hset:=af (qY (RF k q) (RF k (q+1)) x0 ((RF k q x0:Int)+1) (by rw [jU.out,if_pos rfl];omega) (fun i hi=>by rw [jU.out,if_neg (by omega)];rfl))
       have hst:=O9.out.oi.stored (dH _) x0 ((RF k q x0:Int)+1);rw [hset.out] at hst;have uh:=af hst.1;have hxx:(x0:Int)<12:=by omega
       have MO:(RF k q x0:Int)≤1000:=by have:=MN.out x0;omega
       clear hst hset;generalize RF k q x0=rq at hcg uh MO;go_wp2_with fail;go_roundw
       case rel=>exact ⟨q+1,by go_num,by omega,ug.out,uh.out.os,kV.out.setCell (p:=⟨g,x0,none⟩) Hg.out _⟩
       case measure=>simp [intOf];omega
     have hkb:(kd != 3)=true:=by simpa using hk3
     have HF:=af (HB.out (by rw [bF.out,show (kd==3)=false from by simpa using hk3];simp));have nZ:=af oU;have G5:=af hfr;clear oU hfr hr1 hk3 HB HN bF;have ik:=af (show ∀ wz,Below W1.heap.size W1 wz→(wz.cell? ⟨w.heap.size,0,none⟩=some (.slice am k.mem.length cm)∧wz.cell? ⟨w.heap.size,1,none⟩=some (.slice (some ⟨bi,oi,none⟩) k.ag.length ci)∧wz.cell? ⟨wr.heap.size,0,none⟩=some (.slice x l.length y)∧wz.cell? ⟨wr.heap.size,1,none⟩=some (.int .i64 (x0:Int))∧wz.cell? ⟨bi,oi+x0*3,none⟩=some (.int .i64 kd)) from fun wz hz =>
      ⟨(hz.cell (p:=⟨w.heap.size,0,none⟩) dS.out.2.2.2.2).trans dS.out.1,(hz.cell (p:=⟨w.heap.size,1,none⟩) dS.out.2.2.2.2).trans dS.out.2.1,(hz.cell (p:=⟨wr.heap.size,0,none⟩) Bx.out.2.2).trans Bx.out.1,(hz.cell (p:=⟨wr.heap.size,1,none⟩) Bx.out.2.2).trans Bx.out.2.1,(hz.cell (p:=⟨bi,oi+x0*3,none⟩) PD.out).trans Ob.out⟩)
     have S1:=ik.out W1 fZ;go_wp2_with fail;clear h1 h2 k0 k1 k2 k3 hW1;refine wp_region_held_drew (S:=(fun wz=>wz.cell? ⟨w.heap.size,0,none⟩=some (.slice am k.mem.length cm)∧wz.cell? ⟨w.heap.size,1,none⟩=some (.slice (some ⟨bi,oi,none⟩) k.ag.length ci)∧wz.cell? ⟨wr.heap.size,0,none⟩=some (.slice x l.length y)∧wz.cell? ⟨wr.heap.size,1,none⟩=some (.int .i64 (x0:Int))∧wz.cell? ⟨bi,oi+x0*3,none⟩=some (.int .i64 kd))) (by kernel_rfl) (by first | assumption | go_keep) (fun hHeld=>?_)
     refine tH 0 ?_;refine tH 1 ?_;refine rH 2 (fun K hK=>?_)
     (rw [if_pos (by rfl)];go_simp;go_at_call 92;refine (eG l _ W1.drew (show dK W1.drew _ _ from R1.out) uf.out).mono ?_;rintro e w2 ⟨rfl,hb2'⟩;rw [nZ.out];have hb2:=Below.gG hb2';have hc2:=ik.out w2 hb2;go_wp2_with fail)
     refine hK.out _ _ ?_ (fun hHeld=>?_)
     ·first | assumption | go_keep
     clear hK K;refine nH ?_;refine tH 3 ?_;refine tH 4 ?_;refine tH 5 ?_;refine tH 6 ?_;refine tH 7 ?_;refine tH 8 ?_;refine tH 9 ?_;refine tH 10 ?_;refine rH 11 (fun K hK=>?_)
     (rw [if_pos (by rfl)];go_simp;go_at_call 81;refine (jO _ _).mono ?_;rintro e w' ⟨rfl,rfl⟩;rw [G5.out];go_wp2_with fail)
     refine hK.out _ _ ?_ (fun hHeld=>?_)
     ·first | assumption | go_keep
     clear hK K;refine nH ?_;refine tH 12 ?_;refine tH 13 ?_;refine tH 14 ?_;refine tH 15 ?_;refine tH 16 ?_;refine tH 17 ?_;refine tH 18 ?_;refine tH 19 ?_;refine tH 20 ?_;refine tH 21 ?_;refine tH 22 ?_;refine tH 23 ?_;refine tH 24 ?_;refine tH 25 ?_;refine sH 26 ?_;refine sH 27 ?_;refine sH 28 ?_;refine sH 29 ?_;refine sH 30 ?_;refine sH 31 ?_;refine sH 32 ?_;refine sH 33 ?_;refine sH 34 ?_;refine tH 35 ?_;refine wpAnyH_done (by kernel_rfl) ?_ _;have kV:=af (jH.out.trans (hb2.mono jH.out.size));have O9:=af (O1.out.below hb2);clear S1;go_wp2_with fail;go_ret;exact ⟨ak HF.out.symm,dB.out.trans (kV.out.mono dB.out.size)⟩
  have hq3:q=3:=by have:=L_.out;omega
  subst hq3;have Ho:=af ho.out;have HE:=af hall.out;obtain ⟨k0,k1,k2,k3,_⟩:=jF.out.below hb.out;have hil:=RS.len HK.out.i rfl;clear hall;go_wp2_with fail;go_loopw [97] (fun i wi=>∃ f:Nat,i=.int .i64 f∧f≤k.ag.length∧Hid (∀ j,j<f→GY k j=true)∧Hid (OS iR 1 3 wi w0.heap.size (.slice (some ⟨g,0,none⟩) 12 Ry) (dL (RF k 3)))∧Hid (Below w0.heap.size w0 wi)) (fun i _=>k.ag.length - (intOf i).toNat)
  case atStart=>exact ⟨0,rfl,Nat.zero_le _,fun j hj=>absurd hj (Nat.not_lt_zero _),Ho.out,hb.out⟩
  case round =>
   clear k0 k1 k2 k3 Ho ho hb;obtain ⟨f,rfl,hf,hall,ho,hb⟩:=hrel
   by_cases hlt:f<k.ag.length
   ·obtain ⟨b,off,cap,ev,hbb,h1,h2,h3⟩:=bV.at (RS.below HK.out.i hb.out) hlt;simp only [Value.slice.injEq] at ev;obtain ⟨rfl,_,rfl⟩:=ev;have wJ:(f:Int)<(k.ag.length:Int):=by omega
    have dG:f<12:=by have:=ES.out;omega
    have Rz:(f:Int)<12:=by omega
    have HB:=af (show GY k f=false→Kx.az k=false from fun h=>ZJ dG h);have HN:=af (show GY k f=true→∀ j,j<f+1→GY k j=true from fun h=>fF hall.out h);have bF:=af (show GY k f=((!Kx.aX (Kx.inf k.ag f).kind||Kx.rowOk k.mem k.ag f (Kx.inf k.ag f).kind [ByteArray.empty])&&(Kx.inf k.ag f).refs==((RF k 3 f:Nat):Int)) by rw [Py k f L_.out];rfl);obtain ⟨b6,cap6,e,_,hcg,_⟩:=ho.out.oi.at (k:=f) (by rw [dH];exact dG);simp only [Value.slice.injEq,Option.some.injEq,Addr.mk.injEq] at e;obtain ⟨⟨rfl,_,_⟩,yc,rfl⟩:=e;clear yc;rw [jP] at hcg;generalize RF k 3 f=rq at hcg bF;have hgl:=World.block_lt_of_cell? _ _ hcg;generalize Kx.inf k.ag f=y at h1 h2 h3 bF;obtain ⟨W1,hW1⟩:∃ W1,wr.alloc (.cells #[.int .i64 y.kind,.string y.guard,.int .i64 y.refs] 108)=W1:=⟨_,rfl⟩;have B1:=af (show Below wr.heap.size wr W1 from hW1 ▸ dm)
    have Bx:=af (show W1.cell? ⟨wr.heap.size,0,none⟩=some (.int .i64 y.kind)∧W1.cell? ⟨wr.heap.size,1,none⟩=some (.string y.guard)∧W1.cell? ⟨wr.heap.size,2,none⟩=some (.int .i64 y.refs) from hW1 ▸ Dh.new wr _ _ _ _);have Bl:=af (show wr.heap.size<W1.heap.size by rw [←hW1];simp);have jH:=af (hb.out.trans (B1.out.mono hb.out.size));have M1:=af (HK.out.m.below jH.out);have I1:=af (RS.below HK.out.i jH.out);have dS:=af (jF.out.below jH.out);have O1:=af (ho.out.below B1.out);have RG:=af (show W1.cell? ⟨g,f,none⟩=some (.int .i64 (rq:Int))∧g<W1.heap.size from ⟨(B1.out.cell (p:=⟨g,f,none⟩) hgl).trans hcg,Nat.lt_of_lt_of_le hgl B1.out.size⟩);obtain ⟨k0,k1,k2,k3,_⟩:=jF.out.below hb.out
    have ik:=af (show ∀ wz,Below W1.heap.size W1 wz→(wz.cell? ⟨w.heap.size,0,none⟩=some (.slice am k.mem.length cm)∧wz.cell? ⟨w.heap.size,1,none⟩=some (.slice (some ⟨b,off,none⟩) k.ag.length ci)∧wz.cell? ⟨wr.heap.size,0,none⟩=some (.int .i64 y.kind)∧wz.cell? ⟨wr.heap.size,2,none⟩=some (.int .i64 y.refs)∧wz.cell? ⟨g,f,none⟩=some (.int .i64 (rq:Int))) from fun wz hz =>
     ⟨(hz.cell (p:=⟨w.heap.size,0,none⟩) dS.out.2.2.2.2).trans dS.out.1,(hz.cell (p:=⟨w.heap.size,1,none⟩) dS.out.2.2.2.2).trans dS.out.2.1,(hz.cell (p:=⟨wr.heap.size,0,none⟩) Bl.out).trans Bx.out.1,(hz.cell (p:=⟨wr.heap.size,2,none⟩) Bl.out).trans Bx.out.2.2,(hz.cell (p:=⟨g,f,none⟩) RG.out.2).trans RG.out.1⟩)
    have S1:=ik.out W1 fZ;obtain ⟨W2,hW2⟩:∃ W2,(W1.alloc (.cells #[.string ByteArray.empty] 9)).drew=W2:=⟨_,rfl⟩;have B2:=af (show Below W1.heap.size W1 W2 from hW2 ▸ Below.bz (dm));have M2:=af (M1.out.below B2.out);have I2:=af (RS.below I1.out B2.out);have E2:=af (show dK W2 (.slice (some ⟨W1.heap.size,0,none⟩) 1 1) [ByteArray.empty] from hW2 ▸ RS.one (f:=df) (sz:=1) ByteArray.empty #[.string ByteArray.empty] rfl W1 9);have ZL:(W1.alloc (.cells #[.string ⟨#[]⟩] 9)).drew=W2:=hW2;have S2:=ik.out W2 B2.out;clear hW2 hgl hcg hbb
    cases hre:y.refs==((rq:Nat):Int) with
    | false =>
     have hrn:(y.refs != (rq:Int))=true:=by simpa using hre
     have HF:=af (HB.out (by rw [bF.out,hre,Bool.and_false]));clear HB HN bF hre
     cases ht:Kx.aX y.kind with
     | false =>
      have Ht:=af ht;clear ht;go_wp2_with fail;clear h1 h2 h3 k0 k1 k2 k3 hW1;refine wp_region_held_drew (S:=(fun wz=>wz.cell? ⟨w.heap.size,0,none⟩=some (.slice am k.mem.length cm)∧wz.cell? ⟨w.heap.size,1,none⟩=some (.slice (some ⟨b,off,none⟩) k.ag.length ci)∧wz.cell? ⟨wr.heap.size,0,none⟩=some (.int .i64 y.kind)∧wz.cell? ⟨wr.heap.size,2,none⟩=some (.int .i64 y.refs)∧wz.cell? ⟨g,f,none⟩=some (.int .i64 (rq:Int)))) (by kernel_rfl) (by first | assumption | go_keep) (fun hHeld=>?_)
      refine tH 0 ?_;refine tH 1 ?_;refine rH 2 (fun K hK=>?_)
      (rw [if_pos (by rfl)];go_simp;go_at_call 94;refine (j_ _ _).mono ?_;rintro e w' ⟨rfl,rfl⟩;rw [Ht.out];go_wp2_with fail)
      refine hK.out _ _ ?_ (fun hHeld=>?_)
      ·first | assumption | go_keep
      clear hK K;refine nH ?_;refine tH 3 ?_;refine sH 4 ?_;refine sH 5 ?_;refine sH 6 ?_;refine sH 7 ?_;refine sH 8 ?_;refine sH 9 ?_;refine sH 10 ?_;refine sH 11 ?_;refine sH 12 ?_;refine sH 13 ?_;refine tH 14 ?_;refine tH 15 ?_;refine tH 16 ?_;refine tH 17 ?_;refine tH 18 ?_;refine tH 19 ?_;refine tH 20 ?_;refine tH 21 ?_;refine tH 22 ?_;refine tH 23 ?_;refine wpAnyH_done (by kernel_rfl) ?_ _;have kV:=af (jH.out.trans ((show Below W1.heap.size W1 W1.drew from ⟨rfl,rfl,rfl,Nat.le_refl _,fun _ _=>rfl⟩).mono jH.out.size));have O9:=af (O1.out.below (show Below W1.heap.size W1 W1.drew from ⟨rfl,rfl,rfl,Nat.le_refl _,fun _ _=>rfl⟩));clear S1 S2;go_wp2_with fail;go_ret;exact ⟨ak HF.out.symm,dB.out.trans (kV.out.mono dB.out.size)⟩
     | true =>
      have hkd:=af (Kx.dF.1 ht);have Ht:=af ht;clear ht
      cases hq:Kx.rowOk k.mem k.ag f y.kind [ByteArray.empty] with
      | false =>
       have Hq:=af hq;clear hq;go_wp2_with fail;clear h1 h2 h3 k0 k1 k2 k3 hW1;refine wp_region_held_drew (S:=(fun wz=>wz.cell? ⟨w.heap.size,0,none⟩=some (.slice am k.mem.length cm)∧wz.cell? ⟨w.heap.size,1,none⟩=some (.slice (some ⟨b,off,none⟩) k.ag.length ci)∧wz.cell? ⟨wr.heap.size,0,none⟩=some (.int .i64 y.kind)∧wz.cell? ⟨wr.heap.size,2,none⟩=some (.int .i64 y.refs)∧wz.cell? ⟨g,f,none⟩=some (.int .i64 (rq:Int)))) (by kernel_rfl) (by first | assumption | go_keep) (fun hHeld=>?_)
       refine tH 0 ?_;refine tH 1 ?_;refine rH 2 (fun K hK=>?_)
       (rw [if_pos (by rfl)];go_simp;go_at_call 94;refine (j_ _ _).mono ?_;rintro e w' ⟨rfl,rfl⟩;rw [Ht.out];go_wp2_with fail)
       refine hK.out _ _ ?_ (fun hHeld=>?_)
       ·first | assumption | go_keep
       clear hK K;refine nH ?_;refine tH 3 ?_;refine tH 4 ?_;refine tH 5 ?_;refine tH 6 ?_;refine tH 7 ?_;refine tH 8 ?_;refine tH 9 ?_;refine tH 10 ?_;refine rH 11 (fun K hK=>?_)
       (rw [if_pos (by rfl)];go_simp)
       refine hK.out _ _ ?_ (fun hHeld=>?_)
       ·first | assumption | go_keep
       clear hK K;refine nH ?_;refine rH 12 (fun K hK=>?_)
       (rw [if_pos (by rfl)];go_simp;go_at_call 95;refine (BA k.mem k.ag f y.kind [ByteArray.empty] _ _ _ _ M2.out Hm.out I2.out ES.out E2.out hkd.out dG).mono ?_;rintro e w3 ⟨rfl,EZ⟩;rw [Hq.out];have hb3:=B2.out.trans (EZ.mono B2.out.size);have hc3:=ik.out w3 hb3;go_wp2_with fail)
       refine hK.out _ _ ?_ (fun hHeld=>?_)
       ·first | assumption | go_keep
       clear hK K;refine nH ?_;refine tH 13 ?_;refine tH 14 ?_;refine tH 15 ?_;refine sH 16 ?_;refine sH 17 ?_;refine sH 18 ?_;refine sH 19 ?_;refine sH 20 ?_;refine sH 21 ?_;refine sH 22 ?_;refine tH 23 ?_;refine wpAnyH_done (by kernel_rfl) ?_ _;have kV:=af (jH.out.trans (hb3.mono jH.out.size));have O9:=af (O1.out.below hb3);clear S1 S2;go_wp2_with fail;go_ret;exact ⟨ak HF.out.symm,dB.out.trans (kV.out.mono dB.out.size)⟩
      | true =>
       have Hq:=af hq;clear hq;go_wp2_with fail;clear h1 h2 h3 k0 k1 k2 k3 hW1;refine wp_region_held_drew (S:=(fun wz=>wz.cell? ⟨w.heap.size,0,none⟩=some (.slice am k.mem.length cm)∧wz.cell? ⟨w.heap.size,1,none⟩=some (.slice (some ⟨b,off,none⟩) k.ag.length ci)∧wz.cell? ⟨wr.heap.size,0,none⟩=some (.int .i64 y.kind)∧wz.cell? ⟨wr.heap.size,2,none⟩=some (.int .i64 y.refs)∧wz.cell? ⟨g,f,none⟩=some (.int .i64 (rq:Int)))) (by kernel_rfl) (by first | assumption | go_keep) (fun hHeld=>?_)
       refine tH 0 ?_;refine tH 1 ?_;refine rH 2 (fun K hK=>?_)
       (rw [if_pos (by rfl)];go_simp;go_at_call 94;refine (j_ _ _).mono ?_;rintro e w' ⟨rfl,rfl⟩;rw [Ht.out];go_wp2_with fail)
       refine hK.out _ _ ?_ (fun hHeld=>?_)
       ·first | assumption | go_keep
       clear hK K;refine nH ?_;refine tH 3 ?_;refine tH 4 ?_;refine tH 5 ?_;refine tH 6 ?_;refine tH 7 ?_;refine tH 8 ?_;refine tH 9 ?_;refine tH 10 ?_;refine rH 11 (fun K hK=>?_)
       (rw [if_pos (by rfl)];go_simp)
       refine hK.out _ _ ?_ (fun hHeld=>?_)
       ·first | assumption | go_keep
       clear hK K;refine nH ?_;refine rH 12 (fun K hK=>?_)
       (rw [if_pos (by rfl)];go_simp;go_at_call 95;refine (BA k.mem k.ag f y.kind [ByteArray.empty] _ _ _ _ M2.out Hm.out I2.out ES.out E2.out hkd.out dG).mono ?_;rintro e w3 ⟨rfl,EZ⟩;rw [Hq.out];have hb3:=B2.out.trans (EZ.mono B2.out.size);have hc3:=ik.out w3 hb3;go_wp2_with fail)
       refine hK.out _ _ ?_ (fun hHeld=>?_)
       ·first | assumption | go_keep
       clear hK K;refine nH ?_;refine tH 13 ?_;refine tH 14 ?_;refine tH 15 ?_;refine tH 16 ?_;refine tH 17 ?_;refine tH 18 ?_;refine tH 19 ?_;refine tH 20 ?_;refine tH 21 ?_;refine tH 22 ?_;refine tH 23 ?_;refine wpAnyH_done (by kernel_rfl) ?_ _;have kV:=af (jH.out.trans (hb3.mono jH.out.size));have O9:=af (O1.out.below hb3);clear S1 S2;go_wp2_with fail;go_ret;exact ⟨ak HF.out.symm,dB.out.trans (kV.out.mono dB.out.size)⟩
    | true =>
     have hrn:(y.refs != (rq:Int))=false:=by simpa using hre
     cases ht:Kx.aX y.kind with
     | false =>
      have ug:=af (HN.out (by rw [bF.out,hre,ht];rfl));have Ht:=af ht;clear ht HB HN bF hre;go_wp2_with fail;clear h1 h2 h3 k0 k1 k2 k3 hW1;refine wp_region_held_drew (S:=(fun wz=>wz.cell? ⟨w.heap.size,0,none⟩=some (.slice am k.mem.length cm)∧wz.cell? ⟨w.heap.size,1,none⟩=some (.slice (some ⟨b,off,none⟩) k.ag.length ci)∧wz.cell? ⟨wr.heap.size,0,none⟩=some (.int .i64 y.kind)∧wz.cell? ⟨wr.heap.size,2,none⟩=some (.int .i64 y.refs)∧wz.cell? ⟨g,f,none⟩=some (.int .i64 (rq:Int)))) (by kernel_rfl) (by first | assumption | go_keep) (fun hHeld=>?_)
      refine tH 0 ?_;refine tH 1 ?_;refine rH 2 (fun K hK=>?_)
      (rw [if_pos (by rfl)];go_simp;go_at_call 94;refine (j_ _ _).mono ?_;rintro e w' ⟨rfl,rfl⟩;rw [Ht.out];go_wp2_with fail)
      refine hK.out _ _ ?_ (fun hHeld=>?_)
      ·first | assumption | go_keep
      clear hK K;refine nH ?_;refine tH 3 ?_;refine sH 4 ?_;refine sH 5 ?_;refine sH 6 ?_;refine sH 7 ?_;refine sH 8 ?_;refine sH 9 ?_;refine sH 10 ?_;refine sH 11 ?_;refine sH 12 ?_;refine sH 13 ?_;refine tH 14 ?_;refine tH 15 ?_;refine tH 16 ?_;refine tH 17 ?_;refine tH 18 ?_;refine tH 19 ?_;refine tH 20 ?_;refine tH 21 ?_;refine tH 22 ?_;refine tH 23 ?_;refine wpAnyH_done (by kernel_rfl) ?_ _;have kV:=af (jH.out.trans ((show Below W1.heap.size W1 W1.drew from ⟨rfl,rfl,rfl,Nat.le_refl _,fun _ _=>rfl⟩).mono jH.out.size));have O9:=af (O1.out.below (show Below W1.heap.size W1 W1.drew from ⟨rfl,rfl,rfl,Nat.le_refl _,fun _ _=>rfl⟩));clear S1 S2;go_wp2_with fail;go_roundw
      case rel=>exact ⟨f+1,by go_num,by omega,ug.out,O9.out,kV.out⟩
      case measure=>simp [intOf];omega
     | true =>
      have hkd:=af (Kx.dF.1 ht)
      cases hq:Kx.rowOk k.mem k.ag f y.kind [ByteArray.empty] with
      | false =>
       have HF:=af (HB.out (by rw [bF.out,ht,hq];rfl));have Hq:=af hq;have Ht:=af ht;clear hq ht HB HN bF hre;go_wp2_with fail;clear h1 h2 h3 k0 k1 k2 k3 hW1;refine wp_region_held_drew (S:=(fun wz=>wz.cell? ⟨w.heap.size,0,none⟩=some (.slice am k.mem.length cm)∧wz.cell? ⟨w.heap.size,1,none⟩=some (.slice (some ⟨b,off,none⟩) k.ag.length ci)∧wz.cell? ⟨wr.heap.size,0,none⟩=some (.int .i64 y.kind)∧wz.cell? ⟨wr.heap.size,2,none⟩=some (.int .i64 y.refs)∧wz.cell? ⟨g,f,none⟩=some (.int .i64 (rq:Int)))) (by kernel_rfl) (by first | assumption | go_keep) (fun hHeld=>?_)
       refine tH 0 ?_;refine tH 1 ?_;refine rH 2 (fun K hK=>?_)
       (rw [if_pos (by rfl)];go_simp;go_at_call 94;refine (j_ _ _).mono ?_;rintro e w' ⟨rfl,rfl⟩;rw [Ht.out];go_wp2_with fail)
       refine hK.out _ _ ?_ (fun hHeld=>?_)
       ·first | assumption | go_keep
       clear hK K;refine nH ?_;refine tH 3 ?_;refine tH 4 ?_;refine tH 5 ?_;refine tH 6 ?_;refine tH 7 ?_;refine tH 8 ?_;refine tH 9 ?_;refine tH 10 ?_;refine rH 11 (fun K hK=>?_)
       (rw [if_pos (by rfl)];go_simp)
       refine hK.out _ _ ?_ (fun hHeld=>?_)
       ·first | assumption | go_keep
       clear hK K;refine nH ?_;refine rH 12 (fun K hK=>?_)
       (rw [if_pos (by rfl)];go_simp;go_at_call 95;refine (BA k.mem k.ag f y.kind [ByteArray.empty] _ _ _ _ M2.out Hm.out I2.out ES.out E2.out hkd.out dG).mono ?_;rintro e w3 ⟨rfl,EZ⟩;rw [Hq.out];have hb3:=B2.out.trans (EZ.mono B2.out.size);have hc3:=ik.out w3 hb3;go_wp2_with fail)
       refine hK.out _ _ ?_ (fun hHeld=>?_)
       ·first | assumption | go_keep
       clear hK K;refine nH ?_;refine tH 13 ?_;refine tH 14 ?_;refine tH 15 ?_;refine sH 16 ?_;refine sH 17 ?_;refine sH 18 ?_;refine sH 19 ?_;refine sH 20 ?_;refine sH 21 ?_;refine sH 22 ?_;refine tH 23 ?_;refine wpAnyH_done (by kernel_rfl) ?_ _;have kV:=af (jH.out.trans (hb3.mono jH.out.size));have O9:=af (O1.out.below hb3);clear S1 S2;go_wp2_with fail;go_ret;exact ⟨ak HF.out.symm,dB.out.trans (kV.out.mono dB.out.size)⟩
      | true =>
       have ug:=af (HN.out (by rw [bF.out,hre,ht,hq];rfl));have Hq:=af hq;have Ht:=af ht;clear hq ht HB HN bF hre;go_wp2_with fail;clear h1 h2 h3 k0 k1 k2 k3 hW1;refine wp_region_held_drew (S:=(fun wz=>wz.cell? ⟨w.heap.size,0,none⟩=some (.slice am k.mem.length cm)∧wz.cell? ⟨w.heap.size,1,none⟩=some (.slice (some ⟨b,off,none⟩) k.ag.length ci)∧wz.cell? ⟨wr.heap.size,0,none⟩=some (.int .i64 y.kind)∧wz.cell? ⟨wr.heap.size,2,none⟩=some (.int .i64 y.refs)∧wz.cell? ⟨g,f,none⟩=some (.int .i64 (rq:Int)))) (by kernel_rfl) (by first | assumption | go_keep) (fun hHeld=>?_)
       refine tH 0 ?_;refine tH 1 ?_;refine rH 2 (fun K hK=>?_)
       (rw [if_pos (by rfl)];go_simp;go_at_call 94;refine (j_ _ _).mono ?_;rintro e w' ⟨rfl,rfl⟩;rw [Ht.out];go_wp2_with fail)
       refine hK.out _ _ ?_ (fun hHeld=>?_)
       ·first | assumption | go_keep
       clear hK K;refine nH ?_;refine tH 3 ?_;refine tH 4 ?_;refine tH 5 ?_;refine tH 6 ?_;refine tH 7 ?_;refine tH 8 ?_;refine tH 9 ?_;refine tH 10 ?_;refine rH 11 (fun K hK=>?_)
       (rw [if_pos (by rfl)];go_simp)
       refine hK.out _ _ ?_ (fun hHeld=>?_)
       ·first | assumption | go_keep
       clear hK K;refine nH ?_;refine rH 12 (fun K hK=>?_)
       (rw [if_pos (by rfl)];go_simp;go_at_call 95;refine (BA k.mem k.ag f y.kind [ByteArray.empty] _ _ _ _ M2.out Hm.out I2.out ES.out E2.out hkd.out dG).mono ?_;rintro e w3 ⟨rfl,EZ⟩;rw [Hq.out];have hb3:=B2.out.trans (EZ.mono B2.out.size);have hc3:=ik.out w3 hb3;go_wp2_with fail)
       refine hK.out _ _ ?_ (fun hHeld=>?_)
       ·first | assumption | go_keep
       clear hK K;refine nH ?_;refine tH 13 ?_;refine tH 14 ?_;refine tH 15 ?_;refine tH 16 ?_;refine tH 17 ?_;refine tH 18 ?_;refine tH 19 ?_;refine tH 20 ?_;refine tH 21 ?_;refine tH 22 ?_;refine tH 23 ?_;refine wpAnyH_done (by kernel_rfl) ?_ _;have kV:=af (jH.out.trans (hb3.mono jH.out.size));have O9:=af (O1.out.below hb3);clear S1 S2;go_wp2_with fail;go_roundw
       case rel=>exact ⟨f+1,by go_num,by omega,ug.out,O9.out,kV.out⟩
       case measure=>simp [intOf];omega
   have dG:f=12:=by have:=ES.out;omega
   have ZM:=af (show ∀ j,j<12→GY k j=true from fun j hj=>hall.out j (by omega))
   clear dG;obtain ⟨k0,k1,k2,k3,_⟩:=jF.out.below hb.out;have mW:=af (show ∀ e,e<k.ah.length→(Kx.au k.ah e).root≤11 from fun e he=>by
    have h2:=HE.out e (by rw [←L_.out];exact he);unfold Ah Kx.qw at h2;simp only [Bool.and_eq_true] at h2;exact (Kx.ay.1 h2.1.1.2).2)
   clear hall ho hil;go_wp2_with fail;go_loopw [130] (fun i wi=>∃ q:Nat,i=.int .i64 q∧q≤k.cache.length∧Hid (∀ j,j<q→Dj k j=true)∧Hid (Below w0.heap.size w0 wi)) (fun i _=>k.cache.length - (intOf i).toNat)
   case atStart=>exact ⟨0,rfl,Nat.zero_le _,fun j hj=>absurd hj (Nat.not_lt_zero _),hb.out⟩
   case round =>
    clear k0 k1 k2 k3 hb;obtain ⟨q,rfl,hq,hall,hb⟩:=hrel
    by_cases hlt:q<k.cache.length
    ·obtain ⟨k0,k1,k2,k3,hbl⟩:=jF.out.below hb.out;obtain ⟨b,off,cap,ev,hbb,h1,h2,h3,h4⟩:=dZ.at (RS.below HK.out.c hb.out) hlt;simp only [Value.slice.injEq] at ev;obtain ⟨rfl,_,rfl⟩:=ev;have kQ:(q:Int)<(k.cache.length:Int):=by omega
     have HB:=af (show Dj k q=false→Kx.az k=false from fun h=>ZK hlt h);have HN:=af (show Dj k q=true→∀ j,j<q+1→Dj k j=true from fun h=>fF hall.out h);have bF:=af (show Dj k q=Kx.eH k (k.cache.getD q Kx.Cached.zero) from rfl);have hxo:=uj.1 (yg QY.out hlt);generalize k.cache.getD q Kx.Cached.zero=x at h1 h2 h3 h4 bF hxo;obtain ⟨xe,xp,xf,xw⟩:=x;obtain ⟨⟨he0,he2⟩,⟨hp0,PE⟩,_⟩:=hxo;dsimp only at h1 h2 h3 h4 he0 he2 hp0 PE;obtain ⟨e0,rfl⟩:=Int.eq_ofNat_of_zero_le he0;obtain ⟨p0,rfl⟩:=Int.eq_ofNat_of_zero_le hp0;have he3:e0<k.ah.length:=by rw [L_.out];omega
     have PG:(e0:Int)<(k.ah.length:Int):=by omega
     obtain ⟨b2,mP,cap2,u2,ev,hb2,_,h6,_⟩:=(HK.out.e.below hb.out).at he3;simp only [Value.slice.injEq] at ev;obtain ⟨rfl,_,rfl⟩:=ev;have Jw:=af (mW.out e0 he3);have hok2:Dj k q=(!decide ((Kx.au k.ah e0).root<0)&&((Kx.walk k.mem (Kx.au k.ah e0).root.toNat (4*p0)).2==0&&(Kx.walk k.mem (Kx.au k.ah e0).root.toNat (4*p0)).1.1==xf&&(Kx.walk k.mem (Kx.au k.ah e0).root.toNat (4*p0)).1.2.2==xw)):=bF.out;have bF:=af hok2;generalize (Kx.au k.ah e0).root=r at h6 bF Jw;obtain ⟨W1,hW1⟩:∃ W1,wr.alloc (.cells #[.int .i64 e0,.int .i64 p0,.int .i64 xf,.bool xw] 112)=W1:=⟨_,rfl⟩;have B1:=af (show Below wr.heap.size wr W1 from hW1 ▸ dm);have Bx:=af (show kK W1 wr.heap.size (.int .i64 e0) (.int .i64 p0) (.int .i64 xf) (.bool xw) from hW1 ▸ kK.new wr _ _ _ _ 112);have jH:=af (hb.out.trans (B1.out.mono hb.out.size));have M1:=af (HK.out.m.below jH.out)
     have dS:=af (jF.out.below jH.out);obtain ⟨c0,c1,c2,c3,_⟩:=Bx.out;obtain ⟨m0,m1,m2,m3,_⟩:=dS.out;have n6:W1.cell? ⟨b2,mP+e0*2+1,none⟩=some (.int .i64 r):=(B1.out.cell (p:=⟨b2,mP+e0*2+1,none⟩) hb2).trans h6;clear hbl hbb hb2 hok2 he0 he2 hp0 h6
     by_cases hneg:r<0
     ·have HF:=af (HB.out (by rw [bF.out,show decide (r<0)=true from by simpa using hneg];rfl));clear HB HN bF;go_wp2_with fail;go_ret;exact ⟨ak HF.out.symm,dB.out.trans (jH.out.mono dB.out.size)⟩
     obtain ⟨x0,rfl⟩:=Int.eq_ofNat_of_zero_le (Int.not_lt.1 hneg);have eM:(p0:Int)*4=((4*p0:Nat):Int):=by omega
     have RH:=af (o_ k.mem x0 (4*p0) (.slice am k.mem.length cm) W1 M1.out Hm.out (by have:=Jw.out;omega) (by omega));rw [Int.toNat_natCast,show decide ((x0:Int)<0)=false from by simp,Bool.not_false,Bool.true_and] at bF;clear hneg;go_wp2_with fail
     try rw [eM]
     refine RH.out.mono ?_;rintro e w2 ⟨rfl,hb2⟩;have Vw:=af (Bx.out.below hb2);have Hb2:=af (jH.out.trans (hb2.mono jH.out.size));clear hb2 RH c0 c1 c2 c3 m0 m1 m2 m3 k0 k1 k2 k3 n6 h1 h2 h3 h4 eM;generalize Kx.walk k.mem x0 (4*p0)=res at bF;obtain ⟨⟨f,a,wt⟩,code⟩:=res;dsimp only at bF;unfold kM;dsimp only;obtain ⟨W3,hW3⟩:∃ W3,w2.alloc (.cells #[.int .i64 f,.int .i64 a,.bool wt] 66)=W3:=⟨_,rfl⟩;have B3:=af (show Below w2.heap.size w2 W3 from hW3 ▸ dm);obtain ⟨p1,p2,p3⟩:=(show W3.cell? ⟨w2.heap.size,0,none⟩=some (.int .i64 f)∧W3.cell? ⟨w2.heap.size,1,none⟩=some (.int .i64 a)∧W3.cell? ⟨w2.heap.size,2,none⟩=some (.bool wt) from hW3 ▸ Dh.new w2 _ _ _ 66);obtain ⟨c0,c1,c2,c3,_⟩:=Vw.out.below B3.out;have Hb3:=af (Hb2.out.trans (B3.out.mono Hb2.out.size))
     cases hz:code==0 with
     | false =>
      have HF:=af (HB.out (by rw [bF.out,hz];rfl));have hz2:(code != 0)=true:=by simpa using hz
      clear HB HN bF hz;go_wp2_with fail;go_ret;exact ⟨ak HF.out.symm,dB.out.trans (Hb3.out.mono dB.out.size)⟩
     | true =>
      have hz2:code=0:=by simpa using hz
      subst hz2;clear hz
      cases hfz:f==xf with
      | false =>
       have HF:=af (HB.out (by rw [bF.out,hfz];rfl));have hz2:(f != xf)=true:=by simpa using hfz
       clear HB HN bF hfz;go_wp2_with fail;go_ret;exact ⟨ak HF.out.symm,dB.out.trans (Hb3.out.mono dB.out.size)⟩
      | true =>
       have hz2:(f != xf)=false:=by simpa using hfz
       cases hwz:wt==xw with
       | false =>
        have HF:=af (HB.out (by rw [bF.out,hwz,Bool.and_false]));have hz3:(!wt==xw)=true:=Dl hwz;clear HB HN bF hfz hwz;go_wp2_with fail;go_ret;exact ⟨ak HF.out.symm,dB.out.trans (Hb3.out.mono dB.out.size)⟩
       | true =>
        have ug:=af (HN.out (by rw [bF.out,hfz,hwz];rfl));have hz3:(!wt==xw)=false:=Dn hwz;clear HB HN bF hfz hwz;go_wp2_with fail;go_roundw
        case rel=>exact ⟨q+1,by go_num,by omega,ug.out,Hb3.out⟩
        case measure=>simp [intOf];omega
    have HF:=af (show Kx.az k=true from KT Hm.out Hi.out QY.out L_.out HE.out ZM.out (fun j hj=>hall.out j (by omega)))
    obtain ⟨k0,k1,k2,k3,hbl⟩:=jF.out.below hb.out;go_wp2_with fail;go_ret;exact ⟨ak HF.out.symm,dB.out.trans (hb.out.mono dB.out.size)⟩
end Go.Proofs.YtliebkfligagnaaGreatDoor
