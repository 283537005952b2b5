/- Contracts: the impl's side: KernelValid. (printed by ki12.py) -/
import Derived.Test.YthcmmoibpgcgaaaGreatDoorKIa
import Derived.Test.YthcmmoibpgcgaaaGreatDoorKIb
import Derived.Test.YthcmmoibpgcgaaaGreatDoorKIc
set_option maxHeartbeats 8000000
set_option maxRecDepth 100000
set_option linter.all false
open List renaming all_eq_true->A1,all_eq_false->A2,range->A3
open Nat renaming zero_le->A4,not_lt_zero->A5,le_refl->A6
open Int renaming eq_ofNat_of_zero_le->A9
open Bool renaming and_eq_true->A'
open ByteArray renaming empty->Ab
open Go.Value renaming slice->A0
open Go.Proofs.Tryz
namespace Go.Proofs.YthcmmoibpgcgaaaGreatDoor
open Go.RowKit Kx
variable {k:Kx.Kernel}
def RF (k:Kx.Kernel) (q g:Nat):Nat:=gI k.mem k.ag g+eF (k.ah.take q) g
theorem MK (k:Kx.Kernel):dL (RF k 0)=Kx.counts k.mem k.ag:=by
 unfold dL Kx.counts RF eF;simp
theorem ML (k:Kx.Kernel) (q g:Nat) (h:q<k.ah.length):RF k (q+1) g=RF k q g+if (au k.ah q).root=(g:Int) then 1 else 0:=by
 unfold RF eF;have e:au k.ah q=k.ah[q]:=by simp [au,h]
 rw [List.take_succ_eq_append_getElem h,List.countP_append,e,List.countP_singleton]
 by_cases hr:k.ah[q].root=(g:Int)
 ·simp [hr];omega
 simp [hr]
theorem Py (k:Kx.Kernel) (g:Nat) (h:k.ah.length=3):RF k 3 g=gI k.mem k.ag g+eF k.ah g:=by
 unfold RF;rw [List.take_of_length_le (by omega)]
theorem Rx (k:Kx.Kernel) (hm:bW k.mem=true) (q g:Nat):RF k q g<=48+q:=by
 have h1:=cnt_le k.mem k.ag (fun f hf=>(mem_row hm hf).2.1) 12 0 g aW
 have h2:cnt k.mem k.ag 12 0 g=gI k.mem k.ag g:=by rw [fV];unfold cnt;simp
 have h3:eF (k.ah.take q) g<=q:=Nat.le_trans List.countP_le_length (List.length_take_le _ _);unfold RF;omega
def GY (k:Kx.Kernel) (f:Nat):Bool:=(!aX (Kx.inf k.ag f).kind||Kx.rowOk k.mem k.ag f (Kx.inf k.ag f).kind [Ab])&&(Kx.inf k.ag f).refs==((gI k.mem k.ag f+eF k.ah f:Nat):Int)
theorem MM (k:Kx.Kernel):(mD k&&mF k)=(A3 12).all (GY k):=by
 unfold mD mF GY;rw [Bool.eq_iff_iff,A',A1,A1,A1];exact ⟨fun h f hf=>by rw [A'];exact ⟨h.1 f hf,h.2 f hf⟩,fun h=>⟨fun f hf=>(A' _ _ ▸ h f hf).1,fun f hf=>(A' _ _ ▸ h f hf).2⟩⟩
theorem lK (k:Kx.Kernel):az k=(bW k.mem&&bC k.ag&&dA k.cache&&iw k&&(A3 12).all (GY k)&&gV k):=by
 rw [<-MM];unfold az;simp only [Bool.and_assoc]
theorem ZI {q:Nat} (hq:q<k.ah.length) (h:Ah k q=false):az k=false:=by
 have:iw k=false:=by
  unfold iw;rw [oZ,Bool.and_eq_false_iff,A2];exact .inl ⟨q,by simpa using hq,by rw [h];simp⟩
 rw [lK,this];simp
theorem ZJ {f:Nat} (hf:f<12) (h:GY k f=false):az k=false:=by
 have:(A3 12).all (GY k)=false:=by
  rw [A2];exact ⟨f,by simpa using hf,by rw [h];simp⟩
 rw [lK,this];simp
theorem ZK {q:Nat} (hq:q<k.cache.length) (h:Dj k q=false):az k=false:=by
 have:gV k=false:=by
  rw [xK,A2];exact ⟨q,by simpa using hq,by rw [h];simp⟩
 rw [lK,this];simp
theorem KT (h1:bW k.mem=true) (h2:bC k.ag=true) (h3:dA k.cache=true) (h4:k.ah.length=3) (h5:∀ j,j<3->Ah k j=true) (h6:∀ j,j<12->GY k j=true) (h7:∀ j,j<k.cache.length->Dj k j=true):az k=true:=by
 have e1:iw k=true:=by
  unfold iw;rw [oZ,A',A1,h4];exact ⟨fun j hj=>h5 j (by simpa using hj),by simp⟩
 have e2:(A3 12).all (GY k)=true:=by rw [A1];exact fun j hj=>h6 j (by simpa using hj)
 have e3:gV k=true:=by rw [xK,A1];exact fun j hj=>h7 j (by simpa using hj)
 rw [lK,h1,h2,h3,e1,e2,e3];rfl
theorem mX (k:Kx.Kernel) (vm vi ve vc:Value) (w:World) (h:RK w vm vi ve vc k) (hs:iQ k) :
  Calls prog 13 #[.agg #[vm,vi,ve,vc]] w fun e w'=>e=.returned (.bool (az k))/\Below w.heap.size w w':=by
 obtain ⟨w0,hw0⟩:=XP (w.alloc (.cells #[vm,vi,ve,vc] 28));have dB:=af (show Below w.heap.size w w0 from hw0 ▸ (Below.refl w.heap.size w).alloc aW _);have jF:=af (show kK w0 w.heap.size vm vi ve vc from hw0 ▸ kK.new w vm vi ve vc _);have HK:=af (h.below dB.o);have Hs:=af hs;have HV:=af (lK k);obtain ⟨hel,ae,ce,rfl,_,_⟩:=h.e.len;obtain ⟨ac,cc,rfl,_,_⟩:=RS.val h.c;obtain ⟨ai,ci,rfl,_,_⟩:=RS.val h.i;obtain ⟨_,am,cm,rfl,_,_⟩:=h.m.len;have hcl:=h.c.1;obtain ⟨k0,k1,k2,k3,hbl⟩:=jF.o;clear h hs hbl;go_enter func13,ntmps13;go_wp2_with fail;clear hw0;refine (kL k.mem _ _ HK.o.m).mono ?_;rintro e w1 ⟨rfl,hb1⟩;have B1:=af hb1;clear hb1;obtain ⟨a0,a1,a2,a3,_⟩:=jF.o.below B1.o;clear k0 k1 k2 k3
 cases hm:bW k.mem
 ·have HF:=af (show az k=false by rw [HV.o,hm];rfl);clear hm HV;go_wp2_with fail;go_ret;exact ⟨ak HF.o.symm,dB.o.trans (B1.o.mono dB.o.size)⟩
 have Hm:=af hm;clear hm;go_wp2_with fail;refine (uY k.ag _ _ (RS.below HK.o.i B1.o) Hs.o.1).mono ?_;rintro e w2 ⟨rfl,hb2⟩;have B2:=af (B1.o.trans (hb2.mono B1.o.size));clear hb2;obtain ⟨k0,k1,k2,k3,_⟩:=jF.o.below B2.o;clear a0 a1 a2 a3
 cases hm:bC k.ag
 ·have HF:=af (show az k=false by rw [HV.o,hm];simp);clear hm HV;go_wp2_with fail;go_ret;exact ⟨ak HF.o.symm,dB.o.trans (B2.o.mono dB.o.size)⟩
 have Hi:=af hm;clear hm;have ES:=af (show k.ag.length=12 by have:=Hi.o;unfold bC at this;simp only [A'] at this;simpa using this.2);go_wp2_with fail;refine (uZ k.cache _ _ (RS.below HK.o.c B2.o)).mono ?_;rintro e w3 ⟨rfl,hb3⟩;have B3:=af (B2.o.trans (hb3.mono B2.o.size));clear hb3;obtain ⟨a0,a1,a2,a3,_⟩:=jF.o.below B3.o;clear k0 k1 k2 k3
 cases hm:dA k.cache
 ·have HF:=af (show az k=false by rw [HV.o,hm];simp);clear hm HV;go_wp2_with fail;go_ret;exact ⟨ak HF.o.symm,dB.o.trans (B3.o.mono dB.o.size)⟩
 have QY:=af hm;clear hm
 by_cases h3:k.ah.length=3
 rotate_left
 ·have HF:=af (show az k=false by rw [HV.o];unfold iw;simp [h3]);have hne:((k.ah.length:Int) != 3)=true:=by rw [bne_iff_ne];omega
  clear h3 HV;go_wp2_with fail;go_ret;exact ⟨ak HF.o.symm,dB.o.trans (B3.o.mono dB.o.size)⟩
 have hne:((k.ah.length:Int) != 3)=false:=by rw [bne_eq_false_iff_eq];omega
 have L_:=af h3;clear h3;go_wp2_with fail;refine (GZ k.mem k.ag _ _ _ (HK.o.m.below B3.o) Hm.o (RS.below HK.o.i B3.o) ES.o).mono ?_;rintro e w4 ⟨u4,rfl,iV,hb4⟩;have B4:=af (B3.o.trans (hb4.mono B3.o.size));have Ju:=iV.mono B3.o.size;rw [<-MK] at Ju;obtain ⟨g,Ry,rfl,hg,_,_⟩:=Ju.at (k:=0) (by rw [dH];omega);rw [dH] at Ju ⊢;have kH:=af Ju.os;have Hg:=af hg;clear iV Ju hb4 hg;obtain ⟨k0,k1,k2,k3,_⟩:=jF.o.below B4.o;clear a0 a1 a2 a3 HV;go_wp2_with fail;go_loopw [43] (fun i wr=>∃ q:Nat,i=I_ q/\q<=k.ah.length/\TI (∀ j,j<q->Ah k j=true)/\TI (OS iR 1 3 wr w0.heap.size (A0 (some ⟨g,0,none⟩) 12 Ry) (dL (RF k q)))/\TI (Below w0.heap.size w0 wr)) (fun i _=>k.ah.length - (intOf i).toNat)
 case atStart=>exact ⟨0,rfl,A4 _,fun j hj=>absurd hj (A5 _),kH.o,B4.o⟩
 case round =>
  clear k0 k1 k2 k3 kH B4 B3 B2 B1;obtain ⟨q,rfl,hq,hall,ho,hb⟩:=hrel
  by_cases hlt:q<k.ah.length
  ·obtain ⟨b,off,cap,u,ev,hbb,h1,h2,hR⟩:=(HK.o.e.below hb.o).at hlt;obtain ⟨rfl,_,rfl⟩:=Za ev;clear ev;have kQ:(q:Int)<(k.ah.length:Int):=by omega
   have hq3:q<3:=by have:=L_.o;omega
   have HR:=af hR;have uf:=af (Hs.o.2 q hlt);have HB:=af (show Ah k q=false->az k=false from fun h=>ZI hlt h);have HN:=af (show Ah k q=true->∀ j,j<q+1->Ah k j=true from fun h=>fF hall.o h);have bF:=af (show Ah k q=(aS (au k.ah q).aB&&Kx.bK (au k.ah q).root (-1) 11&&(decide ((au k.ah q).root<0)||(Kx.inf k.ag (au k.ah q).root.toNat).kind==3)&&Kx.allowed k.ag (Kx.reach k.mem (au k.ah q).root) (au k.ah q).aB) from rfl);have jU:=af (fun g=>ML k q g hlt);have MN:=af (fun g=>Rx k Hm.o q g);clear hR;generalize (au k.ah q).root=r at h2 bF jU;generalize (au k.ah q).aB=l at HR uf bF;obtain ⟨x,y,hx,hv1,hv2⟩:=RS.val HR.o;subst hx;clear hv1 hv2;obtain ⟨W1,hW1⟩:=XP (wr.alloc (.cells #[A0 x l.length y,I_ r] 86))
   have B1:=af (show Below wr.heap.size wr W1 from hW1 ▸ dm);have Bx:=af (show W1.cell? ⟨wr.heap.size,0,none⟩=some (A0 x l.length y)/\W1.cell? ⟨wr.heap.size,1,none⟩=some (I_ r)/\wr.heap.size<W1.heap.size from hW1 ▸ Pz.new wr (A0 x l.length y) (I_ r) 86);have jH:=af (hb.o.trans (B1.o.mono hb.o.size));have M1:=af (HK.o.m.below jH.o);have I1:=af (RS.below HK.o.i jH.o);have R1:=af (RS.below HR.o B1.o);have dS:=af (jF.o.below jH.o);have O1:=af (ho.o.below B1.o);obtain ⟨k0,k1,k2,k3,_⟩:=jF.o.below hb.o
   cases oU:aS l with
   | false =>
    have HF:=af (HB.o (by rw [bF.o,oU];rfl));have nZ:=af oU;clear oU HB HN bF;have ik:=af (show ∀ wz,Below W1.heap.size W1 wz->(wz.cell? ⟨w.heap.size,0,none⟩=some (A0 am k.mem.length cm)/\wz.cell? ⟨w.heap.size,1,none⟩=some (A0 ai k.ag.length ci)/\wz.cell? ⟨wr.heap.size,0,none⟩=some (A0 x l.length y)/\wz.cell? ⟨wr.heap.size,1,none⟩=some (I_ r)) from fun wz hz =>
     ⟨(hz.cell (p:=⟨w.heap.size,0,none⟩) dS.o.2.2.2.2).trans dS.o.1,(hz.cell (p:=⟨w.heap.size,1,none⟩) dS.o.2.2.2.2).trans dS.o.2.1,(hz.cell (p:=⟨wr.heap.size,0,none⟩) Bx.o.2.2).trans Bx.o.1,(hz.cell (p:=⟨wr.heap.size,1,none⟩) Bx.o.2.2).trans Bx.o.2.1⟩)
    have S1:=ik.o W1 fZ;go_wp2_with fail;clear h1 h2 k0 k1 k2 k3 hW1;refine afi ik fun hHeld=>?_
    refine afU 0 ?_;refine ahk 2 fun K hK=>?_
    (go_simp;go_at_call 62;refine (eG l _ W1.drew (show dK W1.drew _ _ from R1.o) uf.o).mono ?_;rintro e w2 ⟨rfl,hb2'⟩;rw [nZ.o];have hb2:=Below.gG hb2';have hc2:=ik.o w2 hb2;go_wp2_with fail)
    refine afS hK fun hHeld=>?_
    clear hK K;refine afW 3 ?_;refine afW 11 ?_;refine afW 19 ?_;refine afW 27 ?_;refine tH 35 ?_;refine wpAnyH_done (by kernel_rfl) ?_ _;have kV:=af (jH.o.trans (hb2.mono jH.o.size));have O9:=af (O1.o.below hb2);clear S1;go_wp2_with fail;go_ret;exact ⟨ak HF.o.symm,dB.o.trans (kV.o.mono dB.o.size)⟩
   | true =>
    by_cases hr1:r=-1
    ·subst hr1;have lL:=af (show (-1:Int)<=11 by omega)
     cases hal:Kx.allowed k.ag (Kx.reach k.mem (-1)) l with
     | false =>
      have HF:=af (HB.o (by rw [bF.o,hal,Bool.and_false]));have nZ:=af oU;have Dk:=af hal;clear oU hal HB HN bF;have ik:=af (show ∀ wz,Below W1.heap.size W1 wz->(wz.cell? ⟨w.heap.size,0,none⟩=some (A0 am k.mem.length cm)/\wz.cell? ⟨w.heap.size,1,none⟩=some (A0 ai k.ag.length ci)/\wz.cell? ⟨wr.heap.size,0,none⟩=some (A0 x l.length y)/\wz.cell? ⟨wr.heap.size,1,none⟩=some (I_ (-1))) from fun wz hz =>
       ⟨(hz.cell (p:=⟨w.heap.size,0,none⟩) dS.o.2.2.2.2).trans dS.o.1,(hz.cell (p:=⟨w.heap.size,1,none⟩) dS.o.2.2.2.2).trans dS.o.2.1,(hz.cell (p:=⟨wr.heap.size,0,none⟩) Bx.o.2.2).trans Bx.o.1,(hz.cell (p:=⟨wr.heap.size,1,none⟩) Bx.o.2.2).trans Bx.o.2.1⟩)
      have S1:=ik.o W1 fZ;go_wp2_with fail;clear h1 h2 k0 k1 k2 k3 hW1;refine afi ik fun hHeld=>?_
      refine afU 0 ?_;refine ahk 2 fun K hK=>?_
      (go_simp;go_at_call 62;refine (eG l _ W1.drew (show dK W1.drew _ _ from R1.o) uf.o).mono ?_;rintro e w2 ⟨rfl,hb2'⟩;rw [nZ.o];have hb2:=Below.gG hb2';have hc2:=ik.o w2 hb2;go_wp2_with fail)
      refine afS hK fun hHeld=>?_
      clear hK K;refine afW 3 ?_;refine afW 11 ?_;refine afW 19 ?_;refine afV 27 ?_;refine tH 31 ?_;refine ahk 32 fun K hK=>?_
      (go_simp;go_at_call 65;refine (og k.mem (-1) _ _ (M1.o.below hb2) Hm.o lL.o).mono ?_;rintro e w3 ⟨u3,rfl,ho3,hb3⟩;have fK:=hb2.trans (hb3.mono hb2.size);have hc3:=ik.o w3 fK;have jJ:=af ho3.ri;clear ho3;go_wp2_with fail)
      refine afS hK fun hHeld=>?_
      clear hK K;refine ahk 33 fun K hK=>?_
      (go_simp;go_at_call 64;refine (lH k.ag (Kx.reach k.mem (-1)) l w.heap.size _ _ _ _ (RS.below I1.o fK) jJ.o (RS.below R1.o fK) (fun f hf=>by rw [ES.o];exact jK f hf) hc3.2.1).mono ?_;rintro e w4 ⟨rfl,hb4⟩;rw [Dk.o];have hb5:=fK.trans (hb4.mono fK.size);have hc5:=ik.o w4 hb5;go_wp2_with fail)
      refine afS hK fun hHeld=>?_
      clear hK K;refine afU 34 ?_;refine wpAnyH_done (by kernel_rfl) ?_ _;have kV:=af (jH.o.trans (hb5.mono jH.o.size));have O9:=af (O1.o.below hb5);clear S1;go_wp2_with fail;go_ret;exact ⟨ak HF.o.symm,dB.o.trans (kV.o.mono dB.o.size)⟩
     | true =>
      have ug:=af (HN.o (by rw [bF.o,oU,hal];rfl));have HS2:=af (show dL (RF k (q+1))=dL (RF k q) from gU fun g _=>by rw [jU.o,if_neg (by omega)];rfl)
      have nZ:=af oU;have Dk:=af hal;clear oU hal HB HN bF;have ik:=af (show ∀ wz,Below W1.heap.size W1 wz->(wz.cell? ⟨w.heap.size,0,none⟩=some (A0 am k.mem.length cm)/\wz.cell? ⟨w.heap.size,1,none⟩=some (A0 ai k.ag.length ci)/\wz.cell? ⟨wr.heap.size,0,none⟩=some (A0 x l.length y)/\wz.cell? ⟨wr.heap.size,1,none⟩=some (I_ (-1))) from fun wz hz =>
       ⟨(hz.cell (p:=⟨w.heap.size,0,none⟩) dS.o.2.2.2.2).trans dS.o.1,(hz.cell (p:=⟨w.heap.size,1,none⟩) dS.o.2.2.2.2).trans dS.o.2.1,(hz.cell (p:=⟨wr.heap.size,0,none⟩) Bx.o.2.2).trans Bx.o.1,(hz.cell (p:=⟨wr.heap.size,1,none⟩) Bx.o.2.2).trans Bx.o.2.1⟩)
      have S1:=ik.o W1 fZ;go_wp2_with fail;clear h1 h2 k0 k1 k2 k3 hW1;refine afi ik fun hHeld=>?_
      refine afU 0 ?_;refine ahk 2 fun K hK=>?_
      (go_simp;go_at_call 62;refine (eG l _ W1.drew (show dK W1.drew _ _ from R1.o) uf.o).mono ?_;rintro e w2 ⟨rfl,hb2'⟩;rw [nZ.o];have hb2:=Below.gG hb2';have hc2:=ik.o w2 hb2;go_wp2_with fail)
      refine afS hK fun hHeld=>?_
      clear hK K;refine afW 3 ?_;refine afW 11 ?_;refine afW 19 ?_;refine afV 27 ?_;refine tH 31 ?_;refine ahk 32 fun K hK=>?_
      (go_simp;go_at_call 65;refine (og k.mem (-1) _ _ (M1.o.below hb2) Hm.o lL.o).mono ?_;rintro e w3 ⟨u3,rfl,ho3,hb3⟩;have fK:=hb2.trans (hb3.mono hb2.size);have hc3:=ik.o w3 fK;have jJ:=af ho3.ri;clear ho3;go_wp2_with fail)
      refine afS hK fun hHeld=>?_
      clear hK K;refine ahk 33 fun K hK=>?_
      (go_simp;go_at_call 64;refine (lH k.ag (Kx.reach k.mem (-1)) l w.heap.size _ _ _ _ (RS.below I1.o fK) jJ.o (RS.below R1.o fK) (fun f hf=>by rw [ES.o];exact jK f hf) hc3.2.1).mono ?_;rintro e w4 ⟨rfl,hb4⟩;rw [Dk.o];have hb5:=fK.trans (hb4.mono fK.size);have hc5:=ik.o w4 hb5;go_wp2_with fail)
      refine afS hK fun hHeld=>?_
      clear hK K;refine afU 34 ?_;refine wpAnyH_done (by kernel_rfl) ?_ _;have kV:=af (jH.o.trans (hb5.mono jH.o.size));have O9:=af (O1.o.below hb5);clear S1;go_wp2_with fail;go_roundw
      case rel=>exact ⟨q+1,by go_num,by omega,ug.o,by show OS _ _ _ _ _ _ _;rw [HS2.o];exact O9.o,kV.o⟩
      case measure=>simp [intOf];omega
    have hrn:(r != -1)=true:=by simpa using hr1
    cases hfr:Kx.bK r 0 11 with
    | false =>
     have HF:=af (HB.o (by rw [bF.o,show Kx.bK r (-1) 11=false from by rw [Kx.u_] at hfr ⊢;omega];simp));have nZ:=af oU;have G5:=af hfr;clear oU hfr hr1 HB HN bF;have ik:=af (show ∀ wz,Below W1.heap.size W1 wz->(wz.cell? ⟨w.heap.size,0,none⟩=some (A0 am k.mem.length cm)/\wz.cell? ⟨w.heap.size,1,none⟩=some (A0 ai k.ag.length ci)/\wz.cell? ⟨wr.heap.size,0,none⟩=some (A0 x l.length y)/\wz.cell? ⟨wr.heap.size,1,none⟩=some (I_ r)) from fun wz hz =>
      ⟨(hz.cell (p:=⟨w.heap.size,0,none⟩) dS.o.2.2.2.2).trans dS.o.1,(hz.cell (p:=⟨w.heap.size,1,none⟩) dS.o.2.2.2.2).trans dS.o.2.1,(hz.cell (p:=⟨wr.heap.size,0,none⟩) Bx.o.2.2).trans Bx.o.1,(hz.cell (p:=⟨wr.heap.size,1,none⟩) Bx.o.2.2).trans Bx.o.2.1⟩)
     have S1:=ik.o W1 fZ;go_wp2_with fail;clear h1 h2 k0 k1 k2 k3 hW1;refine afi ik fun hHeld=>?_
     refine afU 0 ?_;refine ahk 2 fun K hK=>?_
     (go_simp;go_at_call 62;refine (eG l _ W1.drew (show dK W1.drew _ _ from R1.o) uf.o).mono ?_;rintro e w2 ⟨rfl,hb2'⟩;rw [nZ.o];have hb2:=Below.gG hb2';have hc2:=ik.o w2 hb2;go_wp2_with fail)
     refine afS hK fun hHeld=>?_
     clear hK K;refine afW 3 ?_;refine ahk 11 fun K hK=>?_
     (go_simp;go_at_call 63;refine (jO _ _).mono ?_;rintro e w' ⟨rfl,rfl⟩;rw [G5.o];go_wp2_with fail)
     refine afS hK fun hHeld=>?_
     clear hK K;refine afW 12 ?_;refine afW 20 ?_;refine afW 28 ?_;refine wpAnyH_done (by kernel_rfl) ?_ _;have kV:=af (jH.o.trans (hb2.mono jH.o.size));have O9:=af (O1.o.below hb2);clear S1;go_wp2_with fail;go_ret;exact ⟨ak HF.o.symm,dB.o.trans (kV.o.mono dB.o.size)⟩
    | true =>
     have Jv:=Kx.ay.1 hfr;obtain ⟨x0,rfl⟩:=A9 Jv.1;have sD:x0<k.ag.length:=by rw [ES.o];omega
     have Oa:(x0:Int)<(k.ag.length:Int):=by omega
     have lL:=af (show (x0:Int)<=11 from Jv.2);have hin:=af (show Kx.bK (x0:Int) (-1) 11=true by rw [Kx.ay];omega);have Vu:x0<12:=by omega
     obtain ⟨bi,oi,ci',e,hbi,g1,_,_⟩:=bV.at I1.o sD;obtain ⟨rfl,_,rfl⟩:=Za e;clear e;have PD:=af hbi;rw [Int.toNat_natCast] at bF;generalize (Kx.inf k.ag x0).kind=kd at g1 bF;have Ob:=af g1;have hd0:decide ((x0:Int)<0)=false:=by simp
     rw [hin.o,hd0,Bool.false_or] at bF;clear hbi Jv hd0 g1
     by_cases hk3:kd=3
     ·subst hk3
      cases hal:Kx.allowed k.ag (Kx.reach k.mem (x0:Int)) l with
      | false =>
       have HF:=af (HB.o (by rw [bF.o,hal,Bool.and_false]));have nZ:=af oU;have G5:=af hfr;have Dk:=af hal;clear oU hfr hal hr1 HB HN bF;have ik:=af (show ∀ wz,Below W1.heap.size W1 wz->(wz.cell? ⟨w.heap.size,0,none⟩=some (A0 am k.mem.length cm)/\wz.cell? ⟨w.heap.size,1,none⟩=some (A0 (some ⟨bi,oi,none⟩) k.ag.length ci)/\wz.cell? ⟨wr.heap.size,0,none⟩=some (A0 x l.length y)/\wz.cell? ⟨wr.heap.size,1,none⟩=some (I_ (x0:Int))/\wz.cell? ⟨bi,oi+x0*3,none⟩=some (I_ 3)) from fun wz hz =>
        ⟨(hz.cell (p:=⟨w.heap.size,0,none⟩) dS.o.2.2.2.2).trans dS.o.1,(hz.cell (p:=⟨w.heap.size,1,none⟩) dS.o.2.2.2.2).trans dS.o.2.1,(hz.cell (p:=⟨wr.heap.size,0,none⟩) Bx.o.2.2).trans Bx.o.1,(hz.cell (p:=⟨wr.heap.size,1,none⟩) Bx.o.2.2).trans Bx.o.2.1,(hz.cell (p:=⟨bi,oi+x0*3,none⟩) PD.o).trans Ob.o⟩)
       have S1:=ik.o W1 fZ;go_wp2_with fail;clear h1 h2 k0 k1 k2 k3 hW1;refine afi ik fun hHeld=>?_
       refine afU 0 ?_;refine ahk 2 fun K hK=>?_
       (go_simp;go_at_call 62;refine (eG l _ W1.drew (show dK W1.drew _ _ from R1.o) uf.o).mono ?_;rintro e w2 ⟨rfl,hb2'⟩;rw [nZ.o];have hb2:=Below.gG hb2';have hc2:=ik.o w2 hb2;go_wp2_with fail)
       refine afS hK fun hHeld=>?_
       clear hK K;refine afW 3 ?_;refine ahk 11 fun K hK=>?_
       (go_simp;go_at_call 63;refine (jO _ _).mono ?_;rintro e w' ⟨rfl,rfl⟩;rw [G5.o];go_wp2_with fail)
       refine afS hK fun hHeld=>?_
       clear hK K;refine afW 12 ?_;refine afW 20 ?_;refine afV 28 ?_;refine ahk 32 fun K hK=>?_
       (go_simp;go_at_call 65;refine (og k.mem (x0:Int) _ _ (M1.o.below hb2) Hm.o lL.o).mono ?_;rintro e w3 ⟨u3,rfl,ho3,hb3⟩;have fK:=hb2.trans (hb3.mono hb2.size);have hc3:=ik.o w3 fK;have jJ:=af ho3.ri;clear ho3;go_wp2_with fail)
       refine afS hK fun hHeld=>?_
       clear hK K;refine ahk 33 fun K hK=>?_
       (go_simp;go_at_call 64;refine (lH k.ag (Kx.reach k.mem (x0:Int)) l w.heap.size _ _ _ _ (RS.below I1.o fK) jJ.o (RS.below R1.o fK) (fun f hf=>by rw [ES.o];exact jK f hf) hc3.2.1).mono ?_;rintro e w4 ⟨rfl,hb4⟩;rw [Dk.o];have hb5:=fK.trans (hb4.mono fK.size);have hc5:=ik.o w4 hb5;go_wp2_with fail)
       refine afS hK fun hHeld=>?_
       clear hK K;refine afU 34 ?_;refine wpAnyH_done (by kernel_rfl) ?_ _;have kV:=af (jH.o.trans (hb5.mono jH.o.size));have O9:=af (O1.o.below hb5);clear S1;go_wp2_with fail;go_ret;exact ⟨ak HF.o.symm,dB.o.trans (kV.o.mono dB.o.size)⟩
      | true =>
       have ug:=af (HN.o (by rw [bF.o,oU,hal];rfl));have nZ:=af oU;have G5:=af hfr;have Dk:=af hal;clear oU hfr hal hr1 HB HN bF;have ik:=af (show ∀ wz,Below W1.heap.size W1 wz->(wz.cell? ⟨w.heap.size,0,none⟩=some (A0 am k.mem.length cm)/\wz.cell? ⟨w.heap.size,1,none⟩=some (A0 (some ⟨bi,oi,none⟩) k.ag.length ci)/\wz.cell? ⟨wr.heap.size,0,none⟩=some (A0 x l.length y)/\wz.cell? ⟨wr.heap.size,1,none⟩=some (I_ (x0:Int))/\wz.cell? ⟨bi,oi+x0*3,none⟩=some (I_ 3)) from fun wz hz =>
        ⟨(hz.cell (p:=⟨w.heap.size,0,none⟩) dS.o.2.2.2.2).trans dS.o.1,(hz.cell (p:=⟨w.heap.size,1,none⟩) dS.o.2.2.2.2).trans dS.o.2.1,(hz.cell (p:=⟨wr.heap.size,0,none⟩) Bx.o.2.2).trans Bx.o.1,(hz.cell (p:=⟨wr.heap.size,1,none⟩) Bx.o.2.2).trans Bx.o.2.1,(hz.cell (p:=⟨bi,oi+x0*3,none⟩) PD.o).trans Ob.o⟩)
       have S1:=ik.o W1 fZ;go_wp2_with fail;clear h1 h2 k0 k1 k2 k3 hW1;refine afi ik fun hHeld=>?_
       refine afU 0 ?_;refine ahk 2 fun K hK=>?_
       (go_simp;go_at_call 62;refine (eG l _ W1.drew (show dK W1.drew _ _ from R1.o) uf.o).mono ?_;rintro e w2 ⟨rfl,hb2'⟩;rw [nZ.o];have hb2:=Below.gG hb2';have hc2:=ik.o w2 hb2;go_wp2_with fail)
       refine afS hK fun hHeld=>?_
       clear hK K;refine afW 3 ?_;refine ahk 11 fun K hK=>?_
       (go_simp;go_at_call 63;refine (jO _ _).mono ?_;rintro e w' ⟨rfl,rfl⟩;rw [G5.o];go_wp2_with fail)
       refine afS hK fun hHeld=>?_
       clear hK K;refine afW 12 ?_;refine afW 20 ?_;refine afV 28 ?_;refine ahk 32 fun K hK=>?_
       (go_simp;go_at_call 65;refine (og k.mem (x0:Int) _ _ (M1.o.below hb2) Hm.o lL.o).mono ?_;rintro e w3 ⟨u3,rfl,ho3,hb3⟩;have fK:=hb2.trans (hb3.mono hb2.size);have hc3:=ik.o w3 fK;have jJ:=af ho3.ri;clear ho3;go_wp2_with fail)
       refine afS hK fun hHeld=>?_
       clear hK K;refine ahk 33 fun K hK=>?_
       (go_simp;go_at_call 64;refine (lH k.ag (Kx.reach k.mem (x0:Int)) l w.heap.size _ _ _ _ (RS.below I1.o fK) jJ.o (RS.below R1.o fK) (fun f hf=>by rw [ES.o];exact jK f hf) hc3.2.1).mono ?_;rintro e w4 ⟨rfl,hb4⟩;rw [Dk.o];have hb5:=fK.trans (hb4.mono fK.size);have hc5:=ik.o w4 hb5;go_wp2_with fail)
       refine afS hK fun hHeld=>?_
       clear hK K;refine afU 34 ?_;refine wpAnyH_done (by kernel_rfl) ?_ _;have kV:=af (jH.o.trans (hb5.mono jH.o.size));have O9:=af (O1.o.below hb5);clear S1;obtain ⟨b6,cap6,e,_,hcg,hfg⟩:=O9.o.oi.at (k:=x0) (by rw [dH];exact Vu);obtain ⟨⟨rfl,_,_⟩,yc,rfl⟩:=Zb e;clear e yc;rw [jP] at hcg;have hset:=af (qY (RF k q) (RF k (q+1)) x0 ((RF k q x0:Int)+1) (by rw [jU.o,if_pos rfl];omega) (fun i hi=>by rw [jU.o,if_neg (by omega)];rfl))
       have hst:=O9.o.oi.stored (dH _) x0 ((RF k q x0:Int)+1);rw [hset.o] at hst;have uh:=af hst.1;have hxx:(x0:Int)<12:=by omega
       have MO:(RF k q x0:Int)<=1000:=by have:=MN.o x0;omega
       clear hst hset;generalize RF k q x0=rq at hcg uh MO;go_wp2_with fail;go_roundw
       case rel=>exact ⟨q+1,by go_num,by omega,ug.o,uh.o.os,kV.o.setCell (p:=⟨g,x0,none⟩) Hg.o _⟩
       case measure=>simp [intOf];omega
     have hkb:(kd != 3)=true:=by simpa using hk3
     have HF:=af (HB.o (by rw [bF.o,show (kd==3)=false from by simpa using hk3];simp));have nZ:=af oU;have G5:=af hfr;clear oU hfr hr1 hk3 HB HN bF;have ik:=af (show ∀ wz,Below W1.heap.size W1 wz->(wz.cell? ⟨w.heap.size,0,none⟩=some (A0 am k.mem.length cm)/\wz.cell? ⟨w.heap.size,1,none⟩=some (A0 (some ⟨bi,oi,none⟩) k.ag.length ci)/\wz.cell? ⟨wr.heap.size,0,none⟩=some (A0 x l.length y)/\wz.cell? ⟨wr.heap.size,1,none⟩=some (I_ (x0:Int))/\wz.cell? ⟨bi,oi+x0*3,none⟩=some (I_ kd)) from fun wz hz =>
      ⟨(hz.cell (p:=⟨w.heap.size,0,none⟩) dS.o.2.2.2.2).trans dS.o.1,(hz.cell (p:=⟨w.heap.size,1,none⟩) dS.o.2.2.2.2).trans dS.o.2.1,(hz.cell (p:=⟨wr.heap.size,0,none⟩) Bx.o.2.2).trans Bx.o.1,(hz.cell (p:=⟨wr.heap.size,1,none⟩) Bx.o.2.2).trans Bx.o.2.1,(hz.cell (p:=⟨bi,oi+x0*3,none⟩) PD.o).trans Ob.o⟩)
     have S1:=ik.o W1 fZ;go_wp2_with fail;clear h1 h2 k0 k1 k2 k3 hW1;refine afi ik fun hHeld=>?_
     refine afU 0 ?_;refine ahk 2 fun K hK=>?_
     (go_simp;go_at_call 62;refine (eG l _ W1.drew (show dK W1.drew _ _ from R1.o) uf.o).mono ?_;rintro e w2 ⟨rfl,hb2'⟩;rw [nZ.o];have hb2:=Below.gG hb2';have hc2:=ik.o w2 hb2;go_wp2_with fail)
     refine afS hK fun hHeld=>?_
     clear hK K;refine afW 3 ?_;refine ahk 11 fun K hK=>?_
     (go_simp;go_at_call 63;refine (jO _ _).mono ?_;rintro e w' ⟨rfl,rfl⟩;rw [G5.o];go_wp2_with fail)
     refine afS hK fun hHeld=>?_
     clear hK K;refine afW 12 ?_;refine afW 20 ?_;refine afW 28 ?_;refine wpAnyH_done (by kernel_rfl) ?_ _;have kV:=af (jH.o.trans (hb2.mono jH.o.size));have O9:=af (O1.o.below hb2);clear S1;go_wp2_with fail;go_ret;exact ⟨ak HF.o.symm,dB.o.trans (kV.o.mono dB.o.size)⟩
  have hq3:q=3:=by have:=L_.o;omega
  subst hq3;have Ho:=af ho.o;have HE:=af hall.o;obtain ⟨k0,k1,k2,k3,_⟩:=jF.o.below hb.o;have hil:=RS.len HK.o.i rfl;clear hall;go_wp2_with fail;go_loopw [97] (fun i wi=>∃ f:Nat,i=I_ f/\f<=k.ag.length/\TI (∀ j,j<f->GY k j=true)/\TI (OS iR 1 3 wi w0.heap.size (A0 (some ⟨g,0,none⟩) 12 Ry) (dL (RF k 3)))/\TI (Below w0.heap.size w0 wi)) (fun i _=>k.ag.length - (intOf i).toNat)
  case atStart=>exact ⟨0,rfl,A4 _,fun j hj=>absurd hj (A5 _),Ho.o,hb.o⟩
  case round =>
   clear k0 k1 k2 k3 Ho ho hb;obtain ⟨f,rfl,hf,hall,ho,hb⟩:=hrel
   by_cases hlt:f<k.ag.length
   ·obtain ⟨b,off,cap,ev,hbb,h1,h2,h3⟩:=bV.at (RS.below HK.o.i hb.o) hlt;obtain ⟨rfl,_,rfl⟩:=Za ev;clear ev;have wJ:(f:Int)<(k.ag.length:Int):=by omega
    have dG:f<12:=by have:=ES.o;omega
    have Rz:(f:Int)<12:=by omega
    have HB:=af (show GY k f=false->az k=false from fun h=>ZJ dG h);have HN:=af (show GY k f=true->∀ j,j<f+1->GY k j=true from fun h=>fF hall.o h);have bF:=af (show GY k f=((!aX (Kx.inf k.ag f).kind||Kx.rowOk k.mem k.ag f (Kx.inf k.ag f).kind [Ab])&&(Kx.inf k.ag f).refs==((RF k 3 f:Nat):Int)) by rw [Py k f L_.o];rfl);obtain ⟨b6,cap6,e,_,hcg,_⟩:=ho.o.oi.at (k:=f) (by rw [dH];exact dG);obtain ⟨⟨rfl,_,_⟩,yc,rfl⟩:=Zb e;clear e yc;rw [jP] at hcg;generalize RF k 3 f=rq at hcg bF;have hgl:=World.block_lt_of_cell? _ _ hcg;generalize Kx.inf k.ag f=y at h1 h2 h3 bF;obtain ⟨W1,hW1⟩:=XP (wr.alloc (.cells #[I_ y.kind,.string y.guard,I_ y.refs] 98));have B1:=af (show Below wr.heap.size wr W1 from hW1 ▸ dm)
    have Bx:=af (show W1.cell? ⟨wr.heap.size,0,none⟩=some (I_ y.kind)/\W1.cell? ⟨wr.heap.size,1,none⟩=some (.string y.guard)/\W1.cell? ⟨wr.heap.size,2,none⟩=some (I_ y.refs) from hW1 ▸ Dh.new wr _ _ _ _);have Bl:=af (show wr.heap.size<W1.heap.size by rw [<-hW1];simp);have jH:=af (hb.o.trans (B1.o.mono hb.o.size));have M1:=af (HK.o.m.below jH.o);have I1:=af (RS.below HK.o.i jH.o);have dS:=af (jF.o.below jH.o);have O1:=af (ho.o.below B1.o);have RG:=af (show W1.cell? ⟨g,f,none⟩=some (I_ (rq:Int))/\g<W1.heap.size from ⟨(B1.o.cell (p:=⟨g,f,none⟩) hgl).trans hcg,Nat.lt_of_lt_of_le hgl B1.o.size⟩);obtain ⟨k0,k1,k2,k3,_⟩:=jF.o.below hb.o
    have ik:=af (show ∀ wz,Below W1.heap.size W1 wz->(wz.cell? ⟨w.heap.size,0,none⟩=some (A0 am k.mem.length cm)/\wz.cell? ⟨w.heap.size,1,none⟩=some (A0 (some ⟨b,off,none⟩) k.ag.length ci)/\wz.cell? ⟨wr.heap.size,0,none⟩=some (I_ y.kind)/\wz.cell? ⟨wr.heap.size,2,none⟩=some (I_ y.refs)/\wz.cell? ⟨g,f,none⟩=some (I_ (rq:Int))) from fun wz hz =>
     ⟨(hz.cell (p:=⟨w.heap.size,0,none⟩) dS.o.2.2.2.2).trans dS.o.1,(hz.cell (p:=⟨w.heap.size,1,none⟩) dS.o.2.2.2.2).trans dS.o.2.1,(hz.cell (p:=⟨wr.heap.size,0,none⟩) Bl.o).trans Bx.o.1,(hz.cell (p:=⟨wr.heap.size,2,none⟩) Bl.o).trans Bx.o.2.2,(hz.cell (p:=⟨g,f,none⟩) RG.o.2).trans RG.o.1⟩)
    have S1:=ik.o W1 fZ;obtain ⟨W2,hW2⟩:=XP ((W1.alloc (.cells #[.string Ab] 9)).drew);have B2:=af (show Below W1.heap.size W1 W2 from hW2 ▸ Below.bz (dm));have M2:=af (M1.o.below B2.o);have I2:=af (RS.below I1.o B2.o);have E2:=af (show dK W2 (A0 (some ⟨W1.heap.size,0,none⟩) 1 1) [Ab] from hW2 ▸ RS.one (f:=df) (sz:=1) Ab #[.string Ab] rfl W1 9);have ZL:(W1.alloc (.cells #[.string ⟨#[]⟩] 9)).drew=W2:=hW2;have S2:=ik.o W2 B2.o;clear hW2 hgl hcg hbb
    cases hre:y.refs==((rq:Nat):Int) with
    | false =>
     have hrn:(y.refs != (rq:Int))=true:=by simpa using hre
     have HF:=af (HB.o (by rw [bF.o,hre,Bool.and_false]));clear HB HN bF hre
     cases ht:aX y.kind with
     | false =>
      have Ht:=af ht;clear ht;go_wp2_with fail;clear h1 h2 h3 k0 k1 k2 k3 hW1;refine afi ik fun hHeld=>?_
      refine afU 0 ?_;refine ahk 2 fun K hK=>?_
      (go_simp;go_at_call 66;refine (j_ _ _).mono ?_;rintro e w' ⟨rfl,rfl⟩;rw [Ht.o];go_wp2_with fail)
      refine afS hK fun hHeld=>?_
      clear hK K;refine afW 3 ?_;refine afW 11 ?_;refine afV 19 ?_;refine tH 23 ?_;refine wpAnyH_done (by kernel_rfl) ?_ _;have kV:=af (jH.o.trans ((show Below W1.heap.size W1 W1.drew from ⟨rfl,rfl,rfl,A6 _,fun _ _=>rfl⟩).mono jH.o.size));have O9:=af (O1.o.below (show Below W1.heap.size W1 W1.drew from ⟨rfl,rfl,rfl,A6 _,fun _ _=>rfl⟩));clear S1 S2;go_wp2_with fail;go_ret;exact ⟨ak HF.o.symm,dB.o.trans (kV.o.mono dB.o.size)⟩
     | true =>
      have hkd:=af (dF.1 ht);have Ht:=af ht;clear ht
      cases hq:Kx.rowOk k.mem k.ag f y.kind [Ab] with
      | false =>
       have Hq:=af hq;clear hq;go_wp2_with fail;clear h1 h2 h3 k0 k1 k2 k3 hW1;refine afi ik fun hHeld=>?_
       refine afU 0 ?_;refine ahk 2 fun K hK=>?_
       (go_simp;go_at_call 66;refine (j_ _ _).mono ?_;rintro e w' ⟨rfl,rfl⟩;rw [Ht.o];go_wp2_with fail)
       refine afS hK fun hHeld=>?_
       clear hK K;refine afW 3 ?_;refine ahk 11 fun K hK=>?_
       (go_simp)
       refine afS hK fun hHeld=>?_
       clear hK K;refine ahk 12 fun K hK=>?_
       (go_simp;go_at_call 67;refine (BA k.mem k.ag f y.kind [Ab] _ _ _ _ M2.o Hm.o I2.o ES.o E2.o hkd.o dG).mono ?_;rintro e w3 ⟨rfl,EZ⟩;rw [Hq.o];have hb3:=B2.o.trans (EZ.mono B2.o.size);have hc3:=ik.o w3 hb3;go_wp2_with fail)
       refine afS hK fun hHeld=>?_
       clear hK K;refine afW 13 ?_;refine afU 21 ?_;refine tH 23 ?_;refine wpAnyH_done (by kernel_rfl) ?_ _;have kV:=af (jH.o.trans (hb3.mono jH.o.size));have O9:=af (O1.o.below hb3);clear S1 S2;go_wp2_with fail;go_ret;exact ⟨ak HF.o.symm,dB.o.trans (kV.o.mono dB.o.size)⟩
      | true =>
       have Hq:=af hq;clear hq;go_wp2_with fail;clear h1 h2 h3 k0 k1 k2 k3 hW1;refine afi ik fun hHeld=>?_
       refine afU 0 ?_;refine ahk 2 fun K hK=>?_
       (go_simp;go_at_call 66;refine (j_ _ _).mono ?_;rintro e w' ⟨rfl,rfl⟩;rw [Ht.o];go_wp2_with fail)
       refine afS hK fun hHeld=>?_
       clear hK K;refine afW 3 ?_;refine ahk 11 fun K hK=>?_
       (go_simp)
       refine afS hK fun hHeld=>?_
       clear hK K;refine ahk 12 fun K hK=>?_
       (go_simp;go_at_call 67;refine (BA k.mem k.ag f y.kind [Ab] _ _ _ _ M2.o Hm.o I2.o ES.o E2.o hkd.o dG).mono ?_;rintro e w3 ⟨rfl,EZ⟩;rw [Hq.o];have hb3:=B2.o.trans (EZ.mono B2.o.size);have hc3:=ik.o w3 hb3;go_wp2_with fail)
       refine afS hK fun hHeld=>?_
       clear hK K;refine afW 13 ?_;refine afU 21 ?_;refine tH 23 ?_;refine wpAnyH_done (by kernel_rfl) ?_ _;have kV:=af (jH.o.trans (hb3.mono jH.o.size));have O9:=af (O1.o.below hb3);clear S1 S2;go_wp2_with fail;go_ret;exact ⟨ak HF.o.symm,dB.o.trans (kV.o.mono dB.o.size)⟩
    | true =>
     have hrn:(y.refs != (rq:Int))=false:=by simpa using hre
     cases ht:aX y.kind with
     | false =>
      have ug:=af (HN.o (by rw [bF.o,hre,ht];rfl));have Ht:=af ht;clear ht HB HN bF hre;go_wp2_with fail;clear h1 h2 h3 k0 k1 k2 k3 hW1;refine afi ik fun hHeld=>?_
      refine afU 0 ?_;refine ahk 2 fun K hK=>?_
      (go_simp;go_at_call 66;refine (j_ _ _).mono ?_;rintro e w' ⟨rfl,rfl⟩;rw [Ht.o];go_wp2_with fail)
      refine afS hK fun hHeld=>?_
      clear hK K;refine afW 3 ?_;refine afW 11 ?_;refine afV 19 ?_;refine tH 23 ?_;refine wpAnyH_done (by kernel_rfl) ?_ _;have kV:=af (jH.o.trans ((show Below W1.heap.size W1 W1.drew from ⟨rfl,rfl,rfl,A6 _,fun _ _=>rfl⟩).mono jH.o.size));have O9:=af (O1.o.below (show Below W1.heap.size W1 W1.drew from ⟨rfl,rfl,rfl,A6 _,fun _ _=>rfl⟩));clear S1 S2;go_wp2_with fail;go_roundw
      case rel=>exact ⟨f+1,by go_num,by omega,ug.o,O9.o,kV.o⟩
      case measure=>simp [intOf];omega
     | true =>
      have hkd:=af (dF.1 ht)
      cases hq:Kx.rowOk k.mem k.ag f y.kind [Ab] with
      | false =>
       have HF:=af (HB.o (by rw [bF.o,ht,hq];rfl));have Hq:=af hq;have Ht:=af ht;clear hq ht HB HN bF hre;go_wp2_with fail;clear h1 h2 h3 k0 k1 k2 k3 hW1;refine afi ik fun hHeld=>?_
       refine afU 0 ?_;refine ahk 2 fun K hK=>?_
       (go_simp;go_at_call 66;refine (j_ _ _).mono ?_;rintro e w' ⟨rfl,rfl⟩;rw [Ht.o];go_wp2_with fail)
       refine afS hK fun hHeld=>?_
       clear hK K;refine afW 3 ?_;refine ahk 11 fun K hK=>?_
       (go_simp)
       refine afS hK fun hHeld=>?_
       clear hK K;refine ahk 12 fun K hK=>?_
       (go_simp;go_at_call 67;refine (BA k.mem k.ag f y.kind [Ab] _ _ _ _ M2.o Hm.o I2.o ES.o E2.o hkd.o dG).mono ?_;rintro e w3 ⟨rfl,EZ⟩;rw [Hq.o];have hb3:=B2.o.trans (EZ.mono B2.o.size);have hc3:=ik.o w3 hb3;go_wp2_with fail)
       refine afS hK fun hHeld=>?_
       clear hK K;refine afW 13 ?_;refine afU 21 ?_;refine tH 23 ?_;refine wpAnyH_done (by kernel_rfl) ?_ _;have kV:=af (jH.o.trans (hb3.mono jH.o.size));have O9:=af (O1.o.below hb3);clear S1 S2;go_wp2_with fail;go_ret;exact ⟨ak HF.o.symm,dB.o.trans (kV.o.mono dB.o.size)⟩
      | true =>
       have ug:=af (HN.o (by rw [bF.o,hre,ht,hq];rfl));have Hq:=af hq;have Ht:=af ht;clear hq ht HB HN bF hre;go_wp2_with fail;clear h1 h2 h3 k0 k1 k2 k3 hW1;refine afi ik fun hHeld=>?_
       refine afU 0 ?_;refine ahk 2 fun K hK=>?_
       (go_simp;go_at_call 66;refine (j_ _ _).mono ?_;rintro e w' ⟨rfl,rfl⟩;rw [Ht.o];go_wp2_with fail)
       refine afS hK fun hHeld=>?_
       clear hK K;refine afW 3 ?_;refine ahk 11 fun K hK=>?_
       (go_simp)
       refine afS hK fun hHeld=>?_
       clear hK K;refine ahk 12 fun K hK=>?_
       (go_simp;go_at_call 67;refine (BA k.mem k.ag f y.kind [Ab] _ _ _ _ M2.o Hm.o I2.o ES.o E2.o hkd.o dG).mono ?_;rintro e w3 ⟨rfl,EZ⟩;rw [Hq.o];have hb3:=B2.o.trans (EZ.mono B2.o.size);have hc3:=ik.o w3 hb3;go_wp2_with fail)
       refine afS hK fun hHeld=>?_
       clear hK K;refine afW 13 ?_;refine afU 21 ?_;refine tH 23 ?_;refine wpAnyH_done (by kernel_rfl) ?_ _;have kV:=af (jH.o.trans (hb3.mono jH.o.size));have O9:=af (O1.o.below hb3);clear S1 S2;go_wp2_with fail;go_roundw
       case rel=>exact ⟨f+1,by go_num,by omega,ug.o,O9.o,kV.o⟩
       case measure=>simp [intOf];omega
   have dG:f=12:=by have:=ES.o;omega
   have ZM:=af (show ∀ j,j<12->GY k j=true from fun j hj=>hall.o j (by omega))
   clear dG;obtain ⟨k0,k1,k2,k3,_⟩:=jF.o.below hb.o;have mW:=af (show ∀ e,e<k.ah.length->(au k.ah e).root<=11 from fun e he=>by
    have h2:=HE.o e (by rw [<-L_.o];exact he);unfold Ah qw at h2;simp only [A'] at h2;exact (Kx.ay.1 h2.1.1.2).2)
   clear hall ho hil;go_wp2_with fail;go_loopw [130] (fun i wi=>∃ q:Nat,i=I_ q/\q<=k.cache.length/\TI (∀ j,j<q->Dj k j=true)/\TI (Below w0.heap.size w0 wi)) (fun i _=>k.cache.length - (intOf i).toNat)
   case atStart=>exact ⟨0,rfl,A4 _,fun j hj=>absurd hj (A5 _),hb.o⟩
   case round =>
    clear k0 k1 k2 k3 hb;obtain ⟨q,rfl,hq,hall,hb⟩:=hrel
    by_cases hlt:q<k.cache.length
    ·obtain ⟨k0,k1,k2,k3,hbl⟩:=jF.o.below hb.o;obtain ⟨b,off,cap,ev,hbb,h1,h2,h3,h4⟩:=dZ.at (RS.below HK.o.c hb.o) hlt;obtain ⟨rfl,_,rfl⟩:=Za ev;clear ev;have kQ:(q:Int)<(k.cache.length:Int):=by omega
     have HB:=af (show Dj k q=false->az k=false from fun h=>ZK hlt h);have HN:=af (show Dj k q=true->∀ j,j<q+1->Dj k j=true from fun h=>fF hall.o h);have bF:=af (show Dj k q=eH k (k.cache.getD q Kx.Cached.zero) from rfl);have hxo:=uj.1 (yg QY.o hlt);generalize k.cache.getD q Kx.Cached.zero=x at h1 h2 h3 h4 bF hxo;obtain ⟨xe,xp,xf,xw⟩:=x;obtain ⟨⟨he0,he2⟩,⟨hp0,PE⟩,_⟩:=hxo;dsimp only at h1 h2 h3 h4 he0 he2 hp0 PE;obtain ⟨e0,rfl⟩:=A9 he0;obtain ⟨p0,rfl⟩:=A9 hp0;have he3:e0<k.ah.length:=by rw [L_.o];omega
     have PG:(e0:Int)<(k.ah.length:Int):=by omega
     obtain ⟨b2,mP,cap2,u2,ev,hb2,_,h6,_⟩:=(HK.o.e.below hb.o).at he3;obtain ⟨rfl,_,rfl⟩:=Za ev;clear ev;have Jw:=af (mW.o e0 he3);have hok2:Dj k q=(!decide ((au k.ah e0).root<0)&&((Kx.walk k.mem (au k.ah e0).root.toNat (4*p0)).2==0&&(Kx.walk k.mem (au k.ah e0).root.toNat (4*p0)).1.1==xf&&(Kx.walk k.mem (au k.ah e0).root.toNat (4*p0)).1.2.2==xw)):=bF.o;have bF:=af hok2;generalize (au k.ah e0).root=r at h6 bF Jw;obtain ⟨W1,hW1⟩:=XP (wr.alloc (.cells #[I_ e0,I_ p0,I_ xf,.bool xw] 103));have B1:=af (show Below wr.heap.size wr W1 from hW1 ▸ dm);have Bx:=af (show kK W1 wr.heap.size (I_ e0) (I_ p0) (I_ xf) (.bool xw) from hW1 ▸ kK.new wr _ _ _ _ 103);have jH:=af (hb.o.trans (B1.o.mono hb.o.size));have M1:=af (HK.o.m.below jH.o)
     have dS:=af (jF.o.below jH.o);obtain ⟨c0,c1,c2,c3,_⟩:=Bx.o;obtain ⟨m0,m1,m2,m3,_⟩:=dS.o;have n6:W1.cell? ⟨b2,mP+e0*2+1,none⟩=some (I_ r):=(B1.o.cell (p:=⟨b2,mP+e0*2+1,none⟩) hb2).trans h6;clear hbl hbb hb2 hok2 he0 he2 hp0 h6
     by_cases hneg:r<0
     ·have HF:=af (HB.o (by rw [bF.o,show decide (r<0)=true from by simpa using hneg];rfl));clear HB HN bF;go_wp2_with fail;go_ret;exact ⟨ak HF.o.symm,dB.o.trans (jH.o.mono dB.o.size)⟩
     obtain ⟨x0,rfl⟩:=A9 (Int.not_lt.1 hneg);have eM:(p0:Int)*4=((4*p0:Nat):Int):=by omega
     have RH:=af (o_ k.mem x0 (4*p0) (A0 am k.mem.length cm) W1 M1.o Hm.o (by have:=Jw.o;omega) (by omega));rw [Int.toNat_natCast,show decide ((x0:Int)<0)=false from by simp,Bool.not_false,Bool.true_and] at bF;clear hneg;go_wp2_with fail
     try rw [eM]
     refine RH.o.mono ?_;rintro e w2 ⟨rfl,hb2⟩;have Vw:=af (Bx.o.below hb2);have Hb2:=af (jH.o.trans (hb2.mono jH.o.size));clear hb2 RH c0 c1 c2 c3 m0 m1 m2 m3 k0 k1 k2 k3 n6 h1 h2 h3 h4 eM;generalize Kx.walk k.mem x0 (4*p0)=res at bF;obtain ⟨⟨f,a,wt⟩,code⟩:=res;dsimp only at bF;unfold kM;dsimp only;obtain ⟨W3,hW3⟩:=XP (w2.alloc (.cells #[I_ f,I_ a,.bool wt] 105));have B3:=af (show Below w2.heap.size w2 W3 from hW3 ▸ dm);obtain ⟨p1,p2,p3⟩:=(show W3.cell? ⟨w2.heap.size,0,none⟩=some (I_ f)/\W3.cell? ⟨w2.heap.size,1,none⟩=some (I_ a)/\W3.cell? ⟨w2.heap.size,2,none⟩=some (.bool wt) from hW3 ▸ Dh.new w2 _ _ _ 105);obtain ⟨c0,c1,c2,c3,_⟩:=Vw.o.below B3.o;have Hb3:=af (Hb2.o.trans (B3.o.mono Hb2.o.size))
     cases hz:code==0 with
     | false =>
      have HF:=af (HB.o (by rw [bF.o,hz];rfl));have hz2:(code != 0)=true:=by simpa using hz
      clear HB HN bF hz;go_wp2_with fail;go_ret;exact ⟨ak HF.o.symm,dB.o.trans (Hb3.o.mono dB.o.size)⟩
     | true =>
      have hz2:code=0:=by simpa using hz
      subst hz2;clear hz
      cases hfz:f==xf with
      | false =>
       have HF:=af (HB.o (by rw [bF.o,hfz];rfl));have hz2:(f != xf)=true:=by simpa using hfz
       clear HB HN bF hfz;go_wp2_with fail;go_ret;exact ⟨ak HF.o.symm,dB.o.trans (Hb3.o.mono dB.o.size)⟩
      | true =>
       have hz2:(f != xf)=false:=by simpa using hfz
       cases hwz:wt==xw with
       | false =>
        have HF:=af (HB.o (by rw [bF.o,hwz,Bool.and_false]));have hz3:(!wt==xw)=true:=Dl hwz;clear HB HN bF hfz hwz;go_wp2_with fail;go_ret;exact ⟨ak HF.o.symm,dB.o.trans (Hb3.o.mono dB.o.size)⟩
       | true =>
        have ug:=af (HN.o (by rw [bF.o,hfz,hwz];rfl));have hz3:(!wt==xw)=false:=Dn hwz;clear HB HN bF hfz hwz;go_wp2_with fail;go_roundw
        case rel=>exact ⟨q+1,by go_num,by omega,ug.o,Hb3.o⟩
        case measure=>simp [intOf];omega
    have HF:=af (show az k=true from KT Hm.o Hi.o QY.o L_.o HE.o ZM.o (fun j hj=>hall.o j (by omega)))
    obtain ⟨k0,k1,k2,k3,hbl⟩:=jF.o.below hb.o;go_wp2_with fail;go_ret;exact ⟨ak HF.o.symm,dB.o.trans (hb.o.mono dB.o.size)⟩
end Go.Proofs.YthcmmoibpgcgaaaGreatDoor
