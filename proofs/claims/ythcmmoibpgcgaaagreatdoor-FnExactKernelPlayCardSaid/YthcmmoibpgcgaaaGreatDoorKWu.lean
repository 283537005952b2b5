/- Contracts: spec.l21Envs. (printed by kw12.py) -/
import Derived.Test.YthcmmoibpgcgaaaGreatDoorKWv
set_option maxHeartbeats 4000000
set_option linter.all false
open List renaming all_eq_true->A1
open Nat renaming le_refl->A2
open Go.Value renaming slice->A0
open Go.Proofs.Tryz
namespace Go.Proofs.YthcmmoibpgcgaaaGreatDoor
open Go.RowKit Kx
def Ah (k:Kx.Kernel) (i:Nat):Bool:=qw k (au k.ah i)
theorem oZ (k:Kx.Kernel):k.ah.all (qw k)=(List.range k.ah.length).all (Ah k):=by
 rw [Bool.eq_iff_iff,A1,A1];constructor
 ·intro h i hi;have hi:i<k.ah.length:=by simpa using hi
  have e:au k.ah i=k.ah[i]:=by simp [au,hi]
  unfold Ah;rw [e];exact h _ (List.getElem_mem hi)
 intro h x hx;obtain ⟨i,hi,rfl⟩:=List.getElem_of_mem hx;have:=h i (by simpa using hi);have e:au k.ah i=k.ah[i]:=by simp [au,hi]
 unfold Ah at this;rwa [e] at this
theorem jK {m:List (List Int)} {r:Int}:∀ f ∈ Kx.reach m r,f<12:=by
 unfold Kx.reach fE;split
 ·simp
 intro f hf;have:=(List.mem_filter.1 hf).1;simpa using this
def Am (l:List Kx.Env):Prop:=∀ e,e<l.length->Dw (au l e).aB
theorem Pz.new (w:World) (v0 v1:Value) (e:TypeId):(w.alloc (.cells #[v0,v1] e)).cell? ⟨w.heap.size,0,none⟩=some v0/\(w.alloc (.cells #[v0,v1] e)).cell? ⟨w.heap.size,1,none⟩=some v1/\w.heap.size<(w.alloc (.cells #[v0,v1] e)).heap.size:=by
 have h:(w.alloc (.cells #[v0,v1] e)).heap[w.heap.size]?=some (.cells #[v0,v1] e (0,0)):=heap_alloc_new w _;exact ⟨cell_of_row _ _ 0 _ _ _ h,cell_of_row _ _ 1 _ _ _ h,by simp⟩
theorem Hz (k:Kx.Kernel) (vm vi ve vc:Value) (w:World) (h:RK w vm vi ve vc k) (hmo:bW k.mem=true) (jI:k.ag.length=12) (hse:Am k.ah) :
  Calls prog 95 #[.agg #[vm,vi,ve,vc]] w fun e w'=>e=.returned (.bool (iw k))/\Below w.heap.size w w':=by
 obtain ⟨w0,hw0⟩:=XP (w.alloc (.cells #[vm,vi,ve,vc] 28));have dB:=af (show Below w.heap.size w w0 from hw0 ▸ (Below.refl w.heap.size w).alloc aW _);have jF:=af (show kK w0 w.heap.size vm vi ve vc from hw0 ▸ kK.new w vm vi ve vc _);have HK:=af (h.below dB.o);obtain ⟨hel,ae,ce,rfl,_,_⟩:=h.e.len;obtain ⟨ai,ci,rfl,_,_⟩:=RS.val h.i;obtain ⟨_,am,cm,rfl,_,_⟩:=h.m.len;have nM:=af jI;have kG:=af hmo;have Hse:=af hse;clear h jI hmo hse;go_enter func95,ntmps95;go_wp2_with fail;clear hw0;go_loopw [3] (fun i wr=>∃ q:Nat,i=I_ q/\q<=k.ah.length/\TI (∀ j,j<q->Ah k j=true)/\TI (Below w0.heap.size w0 wr)) (fun i _=>k.ah.length - (intOf i).toNat)
 case atStart=>exact ⟨0,rfl,Nat.zero_le _,fun j hj=>absurd hj (Nat.not_lt_zero _),Below.refl _ _⟩
 case round =>
  obtain ⟨q,rfl,hq,hall,hb⟩:=hrel
  by_cases hlt:q<k.ah.length
  ·obtain ⟨k0,k1,k2,k3,hbl⟩:=jF.o.below hb.o;obtain ⟨b,off,cap,u,ev,hbb,h1,h2,h3⟩:=(HK.o.e.below hb.o).at hlt;obtain ⟨rfl,_,rfl⟩:=Za ev;clear ev;have kQ:(q:Int)<(k.ah.length:Int):=by omega
   have HR:=af h3;have uf:=af (Hse.o q hlt);have HB:=af (show Ah k q=false->iw k=false from fun h=>by
    unfold iw;rw [oZ,Bool.and_eq_false_iff,List.all_eq_false];exact .inl ⟨q,by simpa using hlt,by rw [h];simp⟩)
   have HN:=af (show Ah k q=true->∀ j,j<q+1->Ah k j=true from fun h=>fF hall.o h);have bF:=af (show Ah k q=(aS (au k.ah q).aB&&Kx.bK (au k.ah q).root (-1) 11&&(decide ((au k.ah q).root<0)||(Kx.inf k.ag (au k.ah q).root.toNat).kind==3)&&Kx.allowed k.ag (Kx.reach k.mem (au k.ah q).root) (au k.ah q).aB) from rfl);clear h3;generalize (au k.ah q).root=r at h2 bF;generalize (au k.ah q).aB=l at HR uf bF;obtain ⟨x,y,hx,hv1,hv2⟩:=RS.val HR.o;subst hx;have ND:=af hbl;have S_:=af hbb;clear hbl hbb k3;obtain ⟨W1,hW1⟩:=XP (wr.alloc (.cells #[A0 x l.length y,I_ r] 86));have B1:=af (show Below wr.heap.size wr W1 from hW1 ▸ dm)
   have Bx:=af (show W1.cell? ⟨wr.heap.size,0,none⟩=some (A0 x l.length y)/\W1.cell? ⟨wr.heap.size,1,none⟩=some (I_ r)/\wr.heap.size<W1.heap.size from hW1 ▸ Pz.new wr (A0 x l.length y) (I_ r) 86);have jH:=af (hb.o.trans (B1.o.mono hb.o.size));have M1:=af (HK.o.m.below jH.o);have I1:=af (RS.below HK.o.i jH.o);have R1:=af (RS.below HR.o B1.o);have dS:=af (jF.o.below jH.o)
   cases oU:aS l with
   | false =>
    have HF:=af (HB.o (by rw [bF.o,oU];rfl));have nZ:=af oU;clear oU HB HN bF;have ik:=af (show ∀ wz,Below W1.heap.size W1 wz->(wz.cell? ⟨w.heap.size,0,none⟩=some (A0 am k.mem.length cm)/\wz.cell? ⟨w.heap.size,1,none⟩=some (A0 ai k.ag.length ci)/\wz.cell? ⟨wr.heap.size,0,none⟩=some (A0 x l.length y)/\wz.cell? ⟨wr.heap.size,1,none⟩=some (I_ r)) from fun wz hz =>
     ⟨(hz.cell (p:=⟨w.heap.size,0,none⟩) dS.o.2.2.2.2).trans dS.o.1,(hz.cell (p:=⟨w.heap.size,1,none⟩) dS.o.2.2.2.2).trans dS.o.2.1,(hz.cell (p:=⟨wr.heap.size,0,none⟩) Bx.o.2.2).trans Bx.o.1,(hz.cell (p:=⟨wr.heap.size,1,none⟩) Bx.o.2.2).trans Bx.o.2.1⟩)
    have S1:=ik.o W1 fZ;go_wp2_with fail;refine afi ik fun hHeld=>?_
    refine afU 0 ?_;refine ahk 2 fun K hK=>?_
    (go_simp;go_at_call 173;refine (di l _ W1.drew (show dK W1.drew _ _ from R1.o) uf.o).mono ?_;rintro e w2 ⟨rfl,nn,hw2⟩;rw [nZ.o];have hb2:Below W1.heap.size W1 w2:=(by rw [hw2];exact ⟨rfl,rfl,rfl,A2 _,fun _ _=>rfl⟩);clear hw2;have hc2:=ik.o w2 hb2;go_wp2_with fail)
    refine afS hK fun hHeld=>?_
    clear hK K;refine afW 3 ?_;refine afW 11 ?_;refine afW 19 ?_;refine afW 27 ?_;refine afU 35 ?_;refine tH 37 ?_;refine wpAnyH_done (by kernel_rfl) ?_ _;have kV:=af (jH.o.trans (hb2.mono jH.o.size));clear S1;go_wp2_with fail;go_ret;exact ⟨ak HF.o.symm,dB.o.trans (kV.o.mono dB.o.size)⟩
   | true =>
    cases hin:Kx.bK r (-1) 11 with
    | false =>
     have HF:=af (HB.o (by rw [bF.o,oU,hin];rfl));have nZ:=af oU;have jR:=af hin;clear oU hin HB HN bF;have ik:=af (show ∀ wz,Below W1.heap.size W1 wz->(wz.cell? ⟨w.heap.size,0,none⟩=some (A0 am k.mem.length cm)/\wz.cell? ⟨w.heap.size,1,none⟩=some (A0 ai k.ag.length ci)/\wz.cell? ⟨wr.heap.size,0,none⟩=some (A0 x l.length y)/\wz.cell? ⟨wr.heap.size,1,none⟩=some (I_ r)) from fun wz hz =>
      ⟨(hz.cell (p:=⟨w.heap.size,0,none⟩) dS.o.2.2.2.2).trans dS.o.1,(hz.cell (p:=⟨w.heap.size,1,none⟩) dS.o.2.2.2.2).trans dS.o.2.1,(hz.cell (p:=⟨wr.heap.size,0,none⟩) Bx.o.2.2).trans Bx.o.1,(hz.cell (p:=⟨wr.heap.size,1,none⟩) Bx.o.2.2).trans Bx.o.2.1⟩)
     have S1:=ik.o W1 fZ;go_wp2_with fail;refine afi ik fun hHeld=>?_
     refine afU 0 ?_;refine ahk 2 fun K hK=>?_
     (go_simp;go_at_call 173;refine (di l _ W1.drew (show dK W1.drew _ _ from R1.o) uf.o).mono ?_;rintro e w2 ⟨rfl,nn,hw2⟩;rw [nZ.o];have hb2:Below W1.heap.size W1 w2:=(by rw [hw2];exact ⟨rfl,rfl,rfl,A2 _,fun _ _=>rfl⟩);clear hw2;have hc2:=ik.o w2 hb2;go_wp2_with fail)
     refine afS hK fun hHeld=>?_
     clear hK K;refine afV 3 ?_;refine ahk 7 fun K hK=>?_
     (go_simp;go_at_call 56;refine (dJ _ _ _ _).mono ?_;rintro e w' ⟨rfl,rfl⟩;rw [jR.o];go_wp2_with fail)
     refine afS hK fun hHeld=>?_
     clear hK K;refine afW 8 ?_;refine afW 16 ?_;refine afW 24 ?_;refine afV 32 ?_;refine afU 36 ?_;refine wpAnyH_done (by kernel_rfl) ?_ _;have kV:=af (jH.o.trans (hb2.mono jH.o.size));clear S1;go_wp2_with fail;go_ret;exact ⟨ak HF.o.symm,dB.o.trans (kV.o.mono dB.o.size)⟩
    | true =>
     have lL:=af (Kx.ay.1 hin).2
     by_cases hneg:r<0
     ·have hn0:decide (0<=r)=false:=by simpa using hneg
      have Hng:=af hneg;clear hneg
      cases hal:Kx.allowed k.ag (Kx.reach k.mem r) l with
      | false =>
       have HF:=af (HB.o (by rw [bF.o,hal,Bool.and_false]));have nZ:=af oU;have jR:=af hin;have Dk:=af hal;clear oU hin hal HB HN bF;have ik:=af (show ∀ wz,Below W1.heap.size W1 wz->(wz.cell? ⟨w.heap.size,0,none⟩=some (A0 am k.mem.length cm)/\wz.cell? ⟨w.heap.size,1,none⟩=some (A0 ai k.ag.length ci)/\wz.cell? ⟨wr.heap.size,0,none⟩=some (A0 x l.length y)/\wz.cell? ⟨wr.heap.size,1,none⟩=some (I_ r)) from fun wz hz =>
        ⟨(hz.cell (p:=⟨w.heap.size,0,none⟩) dS.o.2.2.2.2).trans dS.o.1,(hz.cell (p:=⟨w.heap.size,1,none⟩) dS.o.2.2.2.2).trans dS.o.2.1,(hz.cell (p:=⟨wr.heap.size,0,none⟩) Bx.o.2.2).trans Bx.o.1,(hz.cell (p:=⟨wr.heap.size,1,none⟩) Bx.o.2.2).trans Bx.o.2.1⟩)
       have S1:=ik.o W1 fZ;go_wp2_with fail;refine afi ik fun hHeld=>?_
       refine afU 0 ?_;refine ahk 2 fun K hK=>?_
       (go_simp;go_at_call 173;refine (di l _ W1.drew (show dK W1.drew _ _ from R1.o) uf.o).mono ?_;rintro e w2 ⟨rfl,nn,hw2⟩;rw [nZ.o];have hb2:Below W1.heap.size W1 w2:=(by rw [hw2];exact ⟨rfl,rfl,rfl,A2 _,fun _ _=>rfl⟩);clear hw2;have hc2:=ik.o w2 hb2;go_wp2_with fail)
       refine afS hK fun hHeld=>?_
       clear hK K;refine afV 3 ?_;refine ahk 7 fun K hK=>?_
       (go_simp;go_at_call 56;refine (dJ _ _ _ _).mono ?_;rintro e w' ⟨rfl,rfl⟩;rw [jR.o];go_wp2_with fail)
       refine afS hK fun hHeld=>?_
       clear hK K;refine afW 8 ?_;refine afW 16 ?_;refine afW 24 ?_;refine afU 33 ?_;refine ahk 32 fun K hK=>?_
       (go_simp;go_at_call 175;refine (kZ k.mem r _ _ (M1.o.below hb2) kG.o lL.o).mono ?_;rintro e w3 ⟨u3,rfl,ho3,hb3⟩;have fK:=hb2.trans (hb3.mono hb2.size);have hc3:=ik.o w3 fK;have jJ:=af ho3.ri;clear ho3;go_wp2_with fail)
       refine afS hK fun hHeld=>?_
       clear hK K;refine ahk 35 fun K hK=>?_
       (go_simp;go_at_call 174;refine (jw k.ag (Kx.reach k.mem r) l _ _ _ _ (RS.below I1.o fK) jJ.o (RS.below R1.o fK) (fun f hf=>by rw [nM.o];exact jK f hf)).mono ?_;rintro e w4 ⟨rfl,hb4⟩;rw [Dk.o];have hb5:=fK.trans (hb4.mono fK.size);have hc5:=ik.o w4 hb5;go_wp2_with fail)
       refine afS hK fun hHeld=>?_
       clear hK K;refine afU 36 ?_;refine wpAnyH_done (by kernel_rfl) ?_ _;have kV:=af (jH.o.trans (hb5.mono jH.o.size));clear S1;go_wp2_with fail;go_ret;exact ⟨ak HF.o.symm,dB.o.trans (kV.o.mono dB.o.size)⟩
      | true =>
       have ug:=af (HN.o (by rw [bF.o,oU,hin,hal];simp [Hng.o]));have nZ:=af oU;have jR:=af hin;have Dk:=af hal;clear oU hin hal HB HN bF;have ik:=af (show ∀ wz,Below W1.heap.size W1 wz->(wz.cell? ⟨w.heap.size,0,none⟩=some (A0 am k.mem.length cm)/\wz.cell? ⟨w.heap.size,1,none⟩=some (A0 ai k.ag.length ci)/\wz.cell? ⟨wr.heap.size,0,none⟩=some (A0 x l.length y)/\wz.cell? ⟨wr.heap.size,1,none⟩=some (I_ r)) from fun wz hz =>
        ⟨(hz.cell (p:=⟨w.heap.size,0,none⟩) dS.o.2.2.2.2).trans dS.o.1,(hz.cell (p:=⟨w.heap.size,1,none⟩) dS.o.2.2.2.2).trans dS.o.2.1,(hz.cell (p:=⟨wr.heap.size,0,none⟩) Bx.o.2.2).trans Bx.o.1,(hz.cell (p:=⟨wr.heap.size,1,none⟩) Bx.o.2.2).trans Bx.o.2.1⟩)
       have S1:=ik.o W1 fZ;go_wp2_with fail;refine afi ik fun hHeld=>?_
       refine afU 0 ?_;refine ahk 2 fun K hK=>?_
       (go_simp;go_at_call 173;refine (di l _ W1.drew (show dK W1.drew _ _ from R1.o) uf.o).mono ?_;rintro e w2 ⟨rfl,nn,hw2⟩;rw [nZ.o];have hb2:Below W1.heap.size W1 w2:=(by rw [hw2];exact ⟨rfl,rfl,rfl,A2 _,fun _ _=>rfl⟩);clear hw2;have hc2:=ik.o w2 hb2;go_wp2_with fail)
       refine afS hK fun hHeld=>?_
       clear hK K;refine afV 3 ?_;refine ahk 7 fun K hK=>?_
       (go_simp;go_at_call 56;refine (dJ _ _ _ _).mono ?_;rintro e w' ⟨rfl,rfl⟩;rw [jR.o];go_wp2_with fail)
       refine afS hK fun hHeld=>?_
       clear hK K;refine afW 8 ?_;refine afW 16 ?_;refine afW 24 ?_;refine afU 33 ?_;refine ahk 32 fun K hK=>?_
       (go_simp;go_at_call 175;refine (kZ k.mem r _ _ (M1.o.below hb2) kG.o lL.o).mono ?_;rintro e w3 ⟨u3,rfl,ho3,hb3⟩;have fK:=hb2.trans (hb3.mono hb2.size);have hc3:=ik.o w3 fK;have jJ:=af ho3.ri;clear ho3;go_wp2_with fail)
       refine afS hK fun hHeld=>?_
       clear hK K;refine ahk 35 fun K hK=>?_
       (go_simp;go_at_call 174;refine (jw k.ag (Kx.reach k.mem r) l _ _ _ _ (RS.below I1.o fK) jJ.o (RS.below R1.o fK) (fun f hf=>by rw [nM.o];exact jK f hf)).mono ?_;rintro e w4 ⟨rfl,hb4⟩;rw [Dk.o];have hb5:=fK.trans (hb4.mono fK.size);have hc5:=ik.o w4 hb5;go_wp2_with fail)
       refine afS hK fun hHeld=>?_
       clear hK K;refine afU 36 ?_;refine wpAnyH_done (by kernel_rfl) ?_ _;have kV:=af (jH.o.trans (hb5.mono jH.o.size));clear S1;go_wp2_with fail;go_roundw
       case rel=>exact ⟨q+1,by go_num,by omega,ug.o,kV.o⟩
       case measure=>simp [intOf];omega
     obtain ⟨x0,rfl⟩:=Int.eq_ofNat_of_zero_le (Int.not_lt.1 hneg);have sD:x0<k.ag.length:=by rw [nM.o];have:=lL.o;omega
     have Oa:(x0:Int)<(k.ag.length:Int):=by omega
     obtain ⟨bi,oi,cap',ev,hbi,h4,_,_⟩:=bV.at I1.o sD;obtain ⟨rfl,_,rfl⟩:=Za ev;clear ev;have PD:=af hbi;have Ob:=af h4;rw [Int.toNat_natCast] at bF;clear hbi h4 hneg sD;generalize (Kx.inf k.ag x0).kind=kd at Ob bF
     by_cases hk3:kd=3
     ·subst hk3
      cases hal:Kx.allowed k.ag (Kx.reach k.mem x0) l with
      | false =>
       have HF:=af (HB.o (by rw [bF.o,hal,Bool.and_false]));have nZ:=af oU;have jR:=af hin;have Dk:=af hal;clear oU hin hal HB HN bF;have ik:=af (show ∀ wz,Below W1.heap.size W1 wz->(wz.cell? ⟨w.heap.size,0,none⟩=some (A0 am k.mem.length cm)/\wz.cell? ⟨w.heap.size,1,none⟩=some (A0 (some ⟨bi,oi,none⟩) k.ag.length ci)/\wz.cell? ⟨wr.heap.size,0,none⟩=some (A0 x l.length y)/\wz.cell? ⟨wr.heap.size,1,none⟩=some (I_ (x0:Int))/\wz.cell? ⟨bi,oi+x0*3,none⟩=some (I_ 3)) from fun wz hz =>
        ⟨(hz.cell (p:=⟨w.heap.size,0,none⟩) dS.o.2.2.2.2).trans dS.o.1,(hz.cell (p:=⟨w.heap.size,1,none⟩) dS.o.2.2.2.2).trans dS.o.2.1,(hz.cell (p:=⟨wr.heap.size,0,none⟩) Bx.o.2.2).trans Bx.o.1,(hz.cell (p:=⟨wr.heap.size,1,none⟩) Bx.o.2.2).trans Bx.o.2.1,(hz.cell (p:=⟨bi,oi+x0*3,none⟩) PD.o).trans Ob.o⟩)
       have S1:=ik.o W1 fZ;go_wp2_with fail;refine afi ik fun hHeld=>?_
       refine afU 0 ?_;refine ahk 2 fun K hK=>?_
       (go_simp;go_at_call 173;refine (di l _ W1.drew (show dK W1.drew _ _ from R1.o) uf.o).mono ?_;rintro e w2 ⟨rfl,nn,hw2⟩;rw [nZ.o];have hb2:Below W1.heap.size W1 w2:=(by rw [hw2];exact ⟨rfl,rfl,rfl,A2 _,fun _ _=>rfl⟩);clear hw2;have hc2:=ik.o w2 hb2;go_wp2_with fail)
       refine afS hK fun hHeld=>?_
       clear hK K;refine afV 3 ?_;refine ahk 7 fun K hK=>?_
       (go_simp;go_at_call 56;refine (dJ _ _ _ _).mono ?_;rintro e w' ⟨rfl,rfl⟩;rw [jR.o];go_wp2_with fail)
       refine afS hK fun hHeld=>?_
       clear hK K;refine afW 8 ?_;refine afW 16 ?_;refine afW 24 ?_;refine afU 33 ?_;refine ahk 32 fun K hK=>?_
       (go_simp;go_at_call 175;refine (kZ k.mem (x0:Int) _ _ (M1.o.below hb2) kG.o lL.o).mono ?_;rintro e w3 ⟨u3,rfl,ho3,hb3⟩;have fK:=hb2.trans (hb3.mono hb2.size);have hc3:=ik.o w3 fK;have jJ:=af ho3.ri;clear ho3;go_wp2_with fail)
       refine afS hK fun hHeld=>?_
       clear hK K;refine ahk 35 fun K hK=>?_
       (go_simp;go_at_call 174;refine (jw k.ag (Kx.reach k.mem (x0:Int)) l _ _ _ _ (RS.below I1.o fK) jJ.o (RS.below R1.o fK) (fun f hf=>by rw [nM.o];exact jK f hf)).mono ?_;rintro e w4 ⟨rfl,hb4⟩;rw [Dk.o];have hb5:=fK.trans (hb4.mono fK.size);have hc5:=ik.o w4 hb5;go_wp2_with fail)
       refine afS hK fun hHeld=>?_
       clear hK K;refine afU 36 ?_;refine wpAnyH_done (by kernel_rfl) ?_ _;have kV:=af (jH.o.trans (hb5.mono jH.o.size));clear S1;go_wp2_with fail;go_ret;exact ⟨ak HF.o.symm,dB.o.trans (kV.o.mono dB.o.size)⟩
      | true =>
       have ug:=af (HN.o (by rw [bF.o,oU,hin,hal];simp));have nZ:=af oU;have jR:=af hin;have Dk:=af hal;clear oU hin hal HB HN bF;have ik:=af (show ∀ wz,Below W1.heap.size W1 wz->(wz.cell? ⟨w.heap.size,0,none⟩=some (A0 am k.mem.length cm)/\wz.cell? ⟨w.heap.size,1,none⟩=some (A0 (some ⟨bi,oi,none⟩) k.ag.length ci)/\wz.cell? ⟨wr.heap.size,0,none⟩=some (A0 x l.length y)/\wz.cell? ⟨wr.heap.size,1,none⟩=some (I_ (x0:Int))/\wz.cell? ⟨bi,oi+x0*3,none⟩=some (I_ 3)) from fun wz hz =>
        ⟨(hz.cell (p:=⟨w.heap.size,0,none⟩) dS.o.2.2.2.2).trans dS.o.1,(hz.cell (p:=⟨w.heap.size,1,none⟩) dS.o.2.2.2.2).trans dS.o.2.1,(hz.cell (p:=⟨wr.heap.size,0,none⟩) Bx.o.2.2).trans Bx.o.1,(hz.cell (p:=⟨wr.heap.size,1,none⟩) Bx.o.2.2).trans Bx.o.2.1,(hz.cell (p:=⟨bi,oi+x0*3,none⟩) PD.o).trans Ob.o⟩)
       have S1:=ik.o W1 fZ;go_wp2_with fail;refine afi ik fun hHeld=>?_
       refine afU 0 ?_;refine ahk 2 fun K hK=>?_
       (go_simp;go_at_call 173;refine (di l _ W1.drew (show dK W1.drew _ _ from R1.o) uf.o).mono ?_;rintro e w2 ⟨rfl,nn,hw2⟩;rw [nZ.o];have hb2:Below W1.heap.size W1 w2:=(by rw [hw2];exact ⟨rfl,rfl,rfl,A2 _,fun _ _=>rfl⟩);clear hw2;have hc2:=ik.o w2 hb2;go_wp2_with fail)
       refine afS hK fun hHeld=>?_
       clear hK K;refine afV 3 ?_;refine ahk 7 fun K hK=>?_
       (go_simp;go_at_call 56;refine (dJ _ _ _ _).mono ?_;rintro e w' ⟨rfl,rfl⟩;rw [jR.o];go_wp2_with fail)
       refine afS hK fun hHeld=>?_
       clear hK K;refine afW 8 ?_;refine afW 16 ?_;refine afW 24 ?_;refine afU 33 ?_;refine ahk 32 fun K hK=>?_
       (go_simp;go_at_call 175;refine (kZ k.mem (x0:Int) _ _ (M1.o.below hb2) kG.o lL.o).mono ?_;rintro e w3 ⟨u3,rfl,ho3,hb3⟩;have fK:=hb2.trans (hb3.mono hb2.size);have hc3:=ik.o w3 fK;have jJ:=af ho3.ri;clear ho3;go_wp2_with fail)
       refine afS hK fun hHeld=>?_
       clear hK K;refine ahk 35 fun K hK=>?_
       (go_simp;go_at_call 174;refine (jw k.ag (Kx.reach k.mem (x0:Int)) l _ _ _ _ (RS.below I1.o fK) jJ.o (RS.below R1.o fK) (fun f hf=>by rw [nM.o];exact jK f hf)).mono ?_;rintro e w4 ⟨rfl,hb4⟩;rw [Dk.o];have hb5:=fK.trans (hb4.mono fK.size);have hc5:=ik.o w4 hb5;go_wp2_with fail)
       refine afS hK fun hHeld=>?_
       clear hK K;refine afU 36 ?_;refine wpAnyH_done (by kernel_rfl) ?_ _;have kV:=af (jH.o.trans (hb5.mono jH.o.size));clear S1;go_wp2_with fail;go_roundw
       case rel=>exact ⟨q+1,by go_num,by omega,ug.o,kV.o⟩
       case measure=>simp [intOf];omega
     have hkb:(kd != 3)=true:=by simpa using hk3
     have HF:=af (HB.o (by rw [bF.o,show (kd==3)=false from by simpa using hk3,show decide ((x0:Int)<0)=false from by simp];simp));have nZ:=af oU;have jR:=af hin;clear oU hin HB HN bF hk3;have ik:=af (show ∀ wz,Below W1.heap.size W1 wz->(wz.cell? ⟨w.heap.size,0,none⟩=some (A0 am k.mem.length cm)/\wz.cell? ⟨w.heap.size,1,none⟩=some (A0 (some ⟨bi,oi,none⟩) k.ag.length ci)/\wz.cell? ⟨wr.heap.size,0,none⟩=some (A0 x l.length y)/\wz.cell? ⟨wr.heap.size,1,none⟩=some (I_ (x0:Int))/\wz.cell? ⟨bi,oi+x0*3,none⟩=some (I_ kd)) from fun wz hz =>
      ⟨(hz.cell (p:=⟨w.heap.size,0,none⟩) dS.o.2.2.2.2).trans dS.o.1,(hz.cell (p:=⟨w.heap.size,1,none⟩) dS.o.2.2.2.2).trans dS.o.2.1,(hz.cell (p:=⟨wr.heap.size,0,none⟩) Bx.o.2.2).trans Bx.o.1,(hz.cell (p:=⟨wr.heap.size,1,none⟩) Bx.o.2.2).trans Bx.o.2.1,(hz.cell (p:=⟨bi,oi+x0*3,none⟩) PD.o).trans Ob.o⟩)
     have S1:=ik.o W1 fZ;go_wp2_with fail;refine afi ik fun hHeld=>?_
     refine afU 0 ?_;refine ahk 2 fun K hK=>?_
     (go_simp;go_at_call 173;refine (di l _ W1.drew (show dK W1.drew _ _ from R1.o) uf.o).mono ?_;rintro e w2 ⟨rfl,nn,hw2⟩;rw [nZ.o];have hb2:Below W1.heap.size W1 w2:=(by rw [hw2];exact ⟨rfl,rfl,rfl,A2 _,fun _ _=>rfl⟩);clear hw2;have hc2:=ik.o w2 hb2;go_wp2_with fail)
     refine afS hK fun hHeld=>?_
     clear hK K;refine afV 3 ?_;refine ahk 7 fun K hK=>?_
     (go_simp;go_at_call 56;refine (dJ _ _ _ _).mono ?_;rintro e w' ⟨rfl,rfl⟩;rw [jR.o];go_wp2_with fail)
     refine afS hK fun hHeld=>?_
     clear hK K;refine afW 8 ?_;refine afW 16 ?_;refine afW 24 ?_;refine afV 32 ?_;refine afU 36 ?_;refine wpAnyH_done (by kernel_rfl) ?_ _;have kV:=af (jH.o.trans (hb2.mono jH.o.size));clear S1;go_wp2_with fail;go_ret;exact ⟨ak HF.o.symm,dB.o.trans (kV.o.mono dB.o.size)⟩
  have HF:=af (show iw k=(k.ah.length==3) by
   unfold iw;rw [oZ,show (List.range k.ah.length).all (Ah k)=true from by
    rw [A1]; exact fun j hj => hall.o j (by (have : j < k.ah.length := by simpa using hj);omega),Bool.true_and])
  obtain ⟨k0,k1,k2,k3,hbl⟩:=jF.o.below hb.o;go_wp2_with fail;go_ret;exact ⟨ak (by rw [HF.o];exact Bool.eq_iff_iff.2 (by simp;omega)),dB.o.trans (hb.o.mono dB.o.size)⟩
end Go.Proofs.YthcmmoibpgcgaaaGreatDoor
