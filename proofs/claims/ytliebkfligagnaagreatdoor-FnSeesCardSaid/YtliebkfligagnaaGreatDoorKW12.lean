/- Contracts: spec.l21Envs. (printed by kw12.py) -/
import Derived.Test.YtliebkfligagnaaGreatDoorKW11
set_option maxHeartbeats 4000000
set_option linter.all false
namespace Go.Proofs.YtliebkfligagnaaGreatDoor
open Go.RowKit
def Ah (k:Kx.Kernel) (i:Nat):Bool:=Kx.qw k (Kx.au k.ah i)
theorem oZ (k:Kx.Kernel):k.ah.all (Kx.qw k)=(List.range k.ah.length).all (Ah k):=by
 rw [Bool.eq_iff_iff,List.all_eq_true,List.all_eq_true];constructor
 ·intro h i hi;have hi:i<k.ah.length:=by simpa using hi
  have e:Kx.au k.ah i=k.ah[i]:=by simp [Kx.au,hi]
  unfold Ah;rw [e];exact h _ (List.getElem_mem hi)
 intro h x hx;obtain ⟨i,hi,rfl⟩:=List.getElem_of_mem hx;have:=h i (by simpa using hi);have e:Kx.au k.ah i=k.ah[i]:=by simp [Kx.au,hi]
 unfold Ah at this;rwa [e] at this
theorem jK {m:List (List Int)} {r:Int}:∀ f ∈ Kx.reach m r,f<12:=by
 unfold Kx.reach Kx.fE;split
 ·simp
 intro f hf;have:=(List.mem_filter.1 hf).1;simpa using this
def Am (l:List Kx.Env):Prop:=∀ e,e<l.length→Dw (Kx.au l e).aB
theorem Pz.new (w:World) (v0 v1:Value) (e:TypeId):(w.alloc (.cells #[v0,v1] e)).cell? ⟨w.heap.size,0,none⟩=some v0∧(w.alloc (.cells #[v0,v1] e)).cell? ⟨w.heap.size,1,none⟩=some v1∧w.heap.size<(w.alloc (.cells #[v0,v1] e)).heap.size:=by
 have h:(w.alloc (.cells #[v0,v1] e)).heap[w.heap.size]?=some (.cells #[v0,v1] e (0,0)):=heap_alloc_new w _;exact ⟨cell_of_row _ _ 0 _ _ _ h,cell_of_row _ _ 1 _ _ _ h,by simp⟩
theorem OU (w:World) (o:Obj):(w.alloc o).heap.size=w.heap.size+1:=by simp
theorem Hz (k:Kx.Kernel) (vm vi ve vc:Value) (w:World) (h:RK w vm vi ve vc k) (hmo:Kx.bW k.mem=true) (jI:k.ag.length=12) (hse:Am k.ah) :
  Calls Tryz.prog 76 #[.agg #[vm,vi,ve,vc]] w fun e w'=>e=.returned (.bool (Kx.iw k))∧Below w.heap.size w w':=by
 obtain ⟨w0,hw0⟩:∃ w0,w.alloc (.cells #[vm,vi,ve,vc] 36)=w0:=⟨_,rfl⟩;have dB:=af (show Below w.heap.size w w0 from hw0 ▸ (Below.refl w.heap.size w).alloc aW _);have jF:=af (show kK w0 w.heap.size vm vi ve vc from hw0 ▸ kK.new w vm vi ve vc _);have HK:=af (h.below dB.out);obtain ⟨hel,ae,ce,rfl,_,_⟩:=h.e.len;obtain ⟨ai,ci,rfl,_,_⟩:=RS.val h.i;obtain ⟨_,am,cm,rfl,_,_⟩:=h.m.len;have nM:=af jI;have kG:=af hmo;have Hse:=af hse;clear h jI hmo hse;go_enter Tryz.func76,Tryz.ntmps76;go_wp2_with fail;clear hw0;go_loopw [3] (fun i wr=>∃ q:Nat,i=.int .i64 q∧q≤k.ah.length∧Hid (∀ j,j<q→Ah k j=true)∧Hid (Below w0.heap.size w0 wr)) (fun i _=>k.ah.length - (intOf i).toNat)
 case atStart=>exact ⟨0,rfl,Nat.zero_le _,fun j hj=>absurd hj (Nat.not_lt_zero _),Below.refl _ _⟩
 case round =>
  obtain ⟨q,rfl,hq,hall,hb⟩:=hrel
  by_cases hlt:q<k.ah.length
  ·obtain ⟨k0,k1,k2,k3,hbl⟩:=jF.out.below hb.out;obtain ⟨b,off,cap,u,ev,hbb,h1,h2,h3⟩:=(HK.out.e.below hb.out).at hlt;simp only [Value.slice.injEq] at ev;obtain ⟨rfl,_,rfl⟩:=ev;have kQ:(q:Int)<(k.ah.length:Int):=by omega
   have HR:=af h3;have uf:=af (Hse.out q hlt);have HB:=af (show Ah k q=false→Kx.iw k=false from fun h=>by
    unfold Kx.iw;rw [oZ,Bool.and_eq_false_iff,List.all_eq_false];exact .inl ⟨q,by simpa using hlt,by rw [h];simp⟩)
   have HN:=af (show Ah k q=true→∀ j,j<q+1→Ah k j=true from fun h=>fF hall.out h);have bF:=af (show Ah k q=(Kx.aS (Kx.au k.ah q).aB&&Kx.bK (Kx.au k.ah q).root (-1) 11&&(decide ((Kx.au k.ah q).root<0)||(Kx.inf k.ag (Kx.au k.ah q).root.toNat).kind==3)&&Kx.allowed k.ag (Kx.reach k.mem (Kx.au k.ah q).root) (Kx.au k.ah q).aB) from rfl);clear h3;generalize (Kx.au k.ah q).root=r at h2 bF;generalize (Kx.au k.ah q).aB=l at HR uf bF;obtain ⟨x,y,hx,hv1,hv2⟩:=RS.val HR.out;subst hx;have ND:=af hbl;have S_:=af hbb;clear hbl hbb k3;obtain ⟨W1,hW1⟩:∃ W1,wr.alloc (.cells #[.slice x l.length y,.int .i64 r] 64)=W1:=⟨_,rfl⟩;have B1:=af (show Below wr.heap.size wr W1 from hW1 ▸ dm)
   have Bx:=af (show W1.cell? ⟨wr.heap.size,0,none⟩=some (.slice x l.length y)∧W1.cell? ⟨wr.heap.size,1,none⟩=some (.int .i64 r)∧wr.heap.size<W1.heap.size from hW1 ▸ Pz.new wr (.slice x l.length y) (.int .i64 r) 64);have jH:=af (hb.out.trans (B1.out.mono hb.out.size));have M1:=af (HK.out.m.below jH.out);have I1:=af (RS.below HK.out.i jH.out);have R1:=af (RS.below HR.out B1.out);have dS:=af (jF.out.below jH.out)
   cases oU:Kx.aS l with
   | false =>
    have HF:=af (HB.out (by rw [bF.out,oU];rfl));have nZ:=af oU;clear oU HB HN bF;have ik:=af (show ∀ wz,Below W1.heap.size W1 wz→(wz.cell? ⟨w.heap.size,0,none⟩=some (.slice am k.mem.length cm)∧wz.cell? ⟨w.heap.size,1,none⟩=some (.slice ai k.ag.length ci)∧wz.cell? ⟨wr.heap.size,0,none⟩=some (.slice x l.length y)∧wz.cell? ⟨wr.heap.size,1,none⟩=some (.int .i64 r)) from fun wz hz =>
     ⟨(hz.cell (p:=⟨w.heap.size,0,none⟩) dS.out.2.2.2.2).trans dS.out.1,(hz.cell (p:=⟨w.heap.size,1,none⟩) dS.out.2.2.2.2).trans dS.out.2.1,(hz.cell (p:=⟨wr.heap.size,0,none⟩) Bx.out.2.2).trans Bx.out.1,(hz.cell (p:=⟨wr.heap.size,1,none⟩) Bx.out.2.2).trans Bx.out.2.1⟩)
    have S1:=ik.out W1 fZ;go_wp2_with fail;refine wp_region_held_drew (S:=(fun wz=>wz.cell? ⟨w.heap.size,0,none⟩=some (.slice am k.mem.length cm)∧wz.cell? ⟨w.heap.size,1,none⟩=some (.slice ai k.ag.length ci)∧wz.cell? ⟨wr.heap.size,0,none⟩=some (.slice x l.length y)∧wz.cell? ⟨wr.heap.size,1,none⟩=some (.int .i64 r))) (by kernel_rfl) (by first | assumption | go_keep) (fun hHeld=>?_)
    refine tH 0 ?_;refine tH 1 ?_;refine rH 2 (fun K hK=>?_)
    (rw [if_pos (by rfl)];go_simp;go_at_call 130;refine (di l _ W1.drew (show dK W1.drew _ _ from R1.out) uf.out).mono ?_;rintro e w2 ⟨rfl,nn,hw2⟩;rw [nZ.out];have hb2:Below W1.heap.size W1 w2:=(by rw [hw2];exact ⟨rfl,rfl,rfl,Nat.le_refl _,fun _ _=>rfl⟩);clear hw2;have hc2:=ik.out w2 hb2;go_wp2_with fail)
    refine hK.out _ _ ?_ (fun hHeld=>?_)
    ·first | assumption | go_keep
    clear hK K;refine nH ?_;refine tH 3 ?_;refine tH 4 ?_;refine sH 5 ?_;refine sH 6 ?_;refine sH 7 ?_;refine sH 8 ?_;refine tH 9 ?_;refine tH 10 ?_;refine sH 11 ?_;refine sH 12 ?_;refine sH 13 ?_;refine sH 14 ?_;refine sH 15 ?_;refine sH 16 ?_;refine sH 17 ?_;refine sH 18 ?_;refine sH 19 ?_;refine sH 20 ?_;refine sH 21 ?_;refine sH 22 ?_;refine sH 23 ?_;refine tH 24 ?_;refine tH 25 ?_;refine sH 26 ?_;refine sH 27 ?_;refine sH 28 ?_;refine sH 29 ?_;refine sH 30 ?_;refine sH 31 ?_;refine sH 32 ?_;refine sH 33 ?_;refine sH 34 ?_;refine sH 35 ?_;refine sH 36 ?_;refine tH 37 ?_;refine wpAnyH_done (by kernel_rfl) ?_ _;have kV:=af (jH.out.trans (hb2.mono jH.out.size));clear S1;go_wp2_with fail;go_ret;exact ⟨ak HF.out.symm,dB.out.trans (kV.out.mono dB.out.size)⟩
   | true =>
    cases hin:Kx.bK r (-1) 11 with
    | false =>
     have HF:=af (HB.out (by rw [bF.out,oU,hin];rfl));have nZ:=af oU;have jR:=af hin;clear oU hin HB HN bF;have ik:=af (show ∀ wz,Below W1.heap.size W1 wz→(wz.cell? ⟨w.heap.size,0,none⟩=some (.slice am k.mem.length cm)∧wz.cell? ⟨w.heap.size,1,none⟩=some (.slice ai k.ag.length ci)∧wz.cell? ⟨wr.heap.size,0,none⟩=some (.slice x l.length y)∧wz.cell? ⟨wr.heap.size,1,none⟩=some (.int .i64 r)) from fun wz hz =>
      ⟨(hz.cell (p:=⟨w.heap.size,0,none⟩) dS.out.2.2.2.2).trans dS.out.1,(hz.cell (p:=⟨w.heap.size,1,none⟩) dS.out.2.2.2.2).trans dS.out.2.1,(hz.cell (p:=⟨wr.heap.size,0,none⟩) Bx.out.2.2).trans Bx.out.1,(hz.cell (p:=⟨wr.heap.size,1,none⟩) Bx.out.2.2).trans Bx.out.2.1⟩)
     have S1:=ik.out W1 fZ;go_wp2_with fail;refine wp_region_held_drew (S:=(fun wz=>wz.cell? ⟨w.heap.size,0,none⟩=some (.slice am k.mem.length cm)∧wz.cell? ⟨w.heap.size,1,none⟩=some (.slice ai k.ag.length ci)∧wz.cell? ⟨wr.heap.size,0,none⟩=some (.slice x l.length y)∧wz.cell? ⟨wr.heap.size,1,none⟩=some (.int .i64 r))) (by kernel_rfl) (by first | assumption | go_keep) (fun hHeld=>?_)
     refine tH 0 ?_;refine tH 1 ?_;refine rH 2 (fun K hK=>?_)
     (rw [if_pos (by rfl)];go_simp;go_at_call 130;refine (di l _ W1.drew (show dK W1.drew _ _ from R1.out) uf.out).mono ?_;rintro e w2 ⟨rfl,nn,hw2⟩;rw [nZ.out];have hb2:Below W1.heap.size W1 w2:=(by rw [hw2];exact ⟨rfl,rfl,rfl,Nat.le_refl _,fun _ _=>rfl⟩);clear hw2;have hc2:=ik.out w2 hb2;go_wp2_with fail)
     refine hK.out _ _ ?_ (fun hHeld=>?_)
     ·first | assumption | go_keep
     clear hK K;refine nH ?_;refine tH 3 ?_;refine tH 4 ?_;refine tH 5 ?_;refine tH 6 ?_;refine rH 7 (fun K hK=>?_)
     (rw [if_pos (by rfl)];go_simp;go_at_call 99;refine (dJ _ _ _ _).mono ?_;rintro e w' ⟨rfl,rfl⟩;rw [jR.out];go_wp2_with fail)
     refine hK.out _ _ ?_ (fun hHeld=>?_)
     ·first | assumption | go_keep
     clear hK K;refine nH ?_;refine tH 8 ?_;refine tH 9 ?_;refine tH 10 ?_;refine sH 11 ?_;refine sH 12 ?_;refine sH 13 ?_;refine sH 14 ?_;refine sH 15 ?_;refine sH 16 ?_;refine sH 17 ?_;refine sH 18 ?_;refine sH 19 ?_;refine sH 20 ?_;refine sH 21 ?_;refine sH 22 ?_;refine sH 23 ?_;refine tH 24 ?_;refine tH 25 ?_;refine sH 26 ?_;refine sH 27 ?_;refine sH 28 ?_;refine sH 29 ?_;refine sH 30 ?_;refine sH 31 ?_;refine sH 32 ?_;refine sH 33 ?_;refine sH 34 ?_;refine sH 35 ?_;refine sH 36 ?_;refine tH 37 ?_;refine wpAnyH_done (by kernel_rfl) ?_ _;have kV:=af (jH.out.trans (hb2.mono jH.out.size));clear S1;go_wp2_with fail;go_ret;exact ⟨ak HF.out.symm,dB.out.trans (kV.out.mono dB.out.size)⟩
    | true =>
     have lL:=af (Kx.ay.1 hin).2
     by_cases hneg:r<0
     ·have hn0:decide (0≤r)=false:=by simpa using hneg
      have Hng:=af hneg;clear hneg
      cases hal:Kx.allowed k.ag (Kx.reach k.mem r) l with
      | false =>
       have HF:=af (HB.out (by rw [bF.out,hal,Bool.and_false]));have nZ:=af oU;have jR:=af hin;have Dk:=af hal;clear oU hin hal HB HN bF;have ik:=af (show ∀ wz,Below W1.heap.size W1 wz→(wz.cell? ⟨w.heap.size,0,none⟩=some (.slice am k.mem.length cm)∧wz.cell? ⟨w.heap.size,1,none⟩=some (.slice ai k.ag.length ci)∧wz.cell? ⟨wr.heap.size,0,none⟩=some (.slice x l.length y)∧wz.cell? ⟨wr.heap.size,1,none⟩=some (.int .i64 r)) from fun wz hz =>
        ⟨(hz.cell (p:=⟨w.heap.size,0,none⟩) dS.out.2.2.2.2).trans dS.out.1,(hz.cell (p:=⟨w.heap.size,1,none⟩) dS.out.2.2.2.2).trans dS.out.2.1,(hz.cell (p:=⟨wr.heap.size,0,none⟩) Bx.out.2.2).trans Bx.out.1,(hz.cell (p:=⟨wr.heap.size,1,none⟩) Bx.out.2.2).trans Bx.out.2.1⟩)
       have S1:=ik.out W1 fZ;go_wp2_with fail;refine wp_region_held_drew (S:=(fun wz=>wz.cell? ⟨w.heap.size,0,none⟩=some (.slice am k.mem.length cm)∧wz.cell? ⟨w.heap.size,1,none⟩=some (.slice ai k.ag.length ci)∧wz.cell? ⟨wr.heap.size,0,none⟩=some (.slice x l.length y)∧wz.cell? ⟨wr.heap.size,1,none⟩=some (.int .i64 r))) (by kernel_rfl) (by first | assumption | go_keep) (fun hHeld=>?_)
       refine tH 0 ?_;refine tH 1 ?_;refine rH 2 (fun K hK=>?_)
       (rw [if_pos (by rfl)];go_simp;go_at_call 130;refine (di l _ W1.drew (show dK W1.drew _ _ from R1.out) uf.out).mono ?_;rintro e w2 ⟨rfl,nn,hw2⟩;rw [nZ.out];have hb2:Below W1.heap.size W1 w2:=(by rw [hw2];exact ⟨rfl,rfl,rfl,Nat.le_refl _,fun _ _=>rfl⟩);clear hw2;have hc2:=ik.out w2 hb2;go_wp2_with fail)
       refine hK.out _ _ ?_ (fun hHeld=>?_)
       ·first | assumption | go_keep
       clear hK K;refine nH ?_;refine tH 3 ?_;refine tH 4 ?_;refine tH 5 ?_;refine tH 6 ?_;refine rH 7 (fun K hK=>?_)
       (rw [if_pos (by rfl)];go_simp;go_at_call 99;refine (dJ _ _ _ _).mono ?_;rintro e w' ⟨rfl,rfl⟩;rw [jR.out];go_wp2_with fail)
       refine hK.out _ _ ?_ (fun hHeld=>?_)
       ·first | assumption | go_keep
       clear hK K;refine nH ?_;refine tH 8 ?_;refine tH 9 ?_;refine tH 10 ?_;refine tH 11 ?_;refine tH 12 ?_;refine tH 13 ?_;refine tH 14 ?_;refine sH 15 ?_;refine sH 16 ?_;refine sH 17 ?_;refine sH 18 ?_;refine sH 19 ?_;refine sH 20 ?_;refine sH 21 ?_;refine sH 22 ?_;refine tH 23 ?_;refine tH 24 ?_;refine tH 25 ?_;refine tH 26 ?_;refine tH 27 ?_;refine tH 28 ?_;refine tH 29 ?_;refine tH 30 ?_;refine tH 31 ?_;refine tH 33 ?_;refine tH 34 ?_;refine rH 32 (fun K hK=>?_)
       (rw [if_pos (by rfl)];go_simp;go_at_call 132;refine (kZ k.mem r _ _ (M1.out.below hb2) kG.out lL.out).mono ?_;rintro e w3 ⟨u3,rfl,ho3,hb3⟩;have fK:=hb2.trans (hb3.mono hb2.size);have hc3:=ik.out w3 fK;have jJ:=af ho3.ri;clear ho3;go_wp2_with fail)
       refine hK.out _ _ ?_ (fun hHeld=>?_)
       ·first | assumption | go_keep
       clear hK K;refine nH ?_;refine rH 35 (fun K hK=>?_)
       (rw [if_pos (by rfl)];go_simp;go_at_call 131;refine (jw k.ag (Kx.reach k.mem r) l _ _ _ _ (RS.below I1.out fK) jJ.out (RS.below R1.out fK) (fun f hf=>by rw [nM.out];exact jK f hf)).mono ?_;rintro e w4 ⟨rfl,hb4⟩;rw [Dk.out];have hb5:=fK.trans (hb4.mono fK.size);have hc5:=ik.out w4 hb5;go_wp2_with fail)
       refine hK.out _ _ ?_ (fun hHeld=>?_)
       ·first | assumption | go_keep
       clear hK K;refine nH ?_;refine tH 36 ?_;refine tH 37 ?_;refine wpAnyH_done (by kernel_rfl) ?_ _;have kV:=af (jH.out.trans (hb5.mono jH.out.size));clear S1;go_wp2_with fail;go_ret;exact ⟨ak HF.out.symm,dB.out.trans (kV.out.mono dB.out.size)⟩
      | true =>
       have ug:=af (HN.out (by rw [bF.out,oU,hin,hal];simp [Hng.out]));have nZ:=af oU;have jR:=af hin;have Dk:=af hal;clear oU hin hal HB HN bF;have ik:=af (show ∀ wz,Below W1.heap.size W1 wz→(wz.cell? ⟨w.heap.size,0,none⟩=some (.slice am k.mem.length cm)∧wz.cell? ⟨w.heap.size,1,none⟩=some (.slice ai k.ag.length ci)∧wz.cell? ⟨wr.heap.size,0,none⟩=some (.slice x l.length y)∧wz.cell? ⟨wr.heap.size,1,none⟩=some (.int .i64 r)) from fun wz hz =>
        ⟨(hz.cell (p:=⟨w.heap.size,0,none⟩) dS.out.2.2.2.2).trans dS.out.1,(hz.cell (p:=⟨w.heap.size,1,none⟩) dS.out.2.2.2.2).trans dS.out.2.1,(hz.cell (p:=⟨wr.heap.size,0,none⟩) Bx.out.2.2).trans Bx.out.1,(hz.cell (p:=⟨wr.heap.size,1,none⟩) Bx.out.2.2).trans Bx.out.2.1⟩)
       have S1:=ik.out W1 fZ;go_wp2_with fail;refine wp_region_held_drew (S:=(fun wz=>wz.cell? ⟨w.heap.size,0,none⟩=some (.slice am k.mem.length cm)∧wz.cell? ⟨w.heap.size,1,none⟩=some (.slice ai k.ag.length ci)∧wz.cell? ⟨wr.heap.size,0,none⟩=some (.slice x l.length y)∧wz.cell? ⟨wr.heap.size,1,none⟩=some (.int .i64 r))) (by kernel_rfl) (by first | assumption | go_keep) (fun hHeld=>?_)
       refine tH 0 ?_;refine tH 1 ?_;refine rH 2 (fun K hK=>?_)
       (rw [if_pos (by rfl)];go_simp;go_at_call 130;refine (di l _ W1.drew (show dK W1.drew _ _ from R1.out) uf.out).mono ?_;rintro e w2 ⟨rfl,nn,hw2⟩;rw [nZ.out];have hb2:Below W1.heap.size W1 w2:=(by rw [hw2];exact ⟨rfl,rfl,rfl,Nat.le_refl _,fun _ _=>rfl⟩);clear hw2;have hc2:=ik.out w2 hb2;go_wp2_with fail)
       refine hK.out _ _ ?_ (fun hHeld=>?_)
       ·first | assumption | go_keep
       clear hK K;refine nH ?_;refine tH 3 ?_;refine tH 4 ?_;refine tH 5 ?_;refine tH 6 ?_;refine rH 7 (fun K hK=>?_)
       (rw [if_pos (by rfl)];go_simp;go_at_call 99;refine (dJ _ _ _ _).mono ?_;rintro e w' ⟨rfl,rfl⟩;rw [jR.out];go_wp2_with fail)
       refine hK.out _ _ ?_ (fun hHeld=>?_)
       ·first | assumption | go_keep
       clear hK K;refine nH ?_;refine tH 8 ?_;refine tH 9 ?_;refine tH 10 ?_;refine tH 11 ?_;refine tH 12 ?_;refine tH 13 ?_;refine tH 14 ?_;refine sH 15 ?_;refine sH 16 ?_;refine sH 17 ?_;refine sH 18 ?_;refine sH 19 ?_;refine sH 20 ?_;refine sH 21 ?_;refine sH 22 ?_;refine tH 23 ?_;refine tH 24 ?_;refine tH 25 ?_;refine tH 26 ?_;refine tH 27 ?_;refine tH 28 ?_;refine tH 29 ?_;refine tH 30 ?_;refine tH 31 ?_;refine tH 33 ?_;refine tH 34 ?_;refine rH 32 (fun K hK=>?_)
       (rw [if_pos (by rfl)];go_simp;go_at_call 132;refine (kZ k.mem r _ _ (M1.out.below hb2) kG.out lL.out).mono ?_;rintro e w3 ⟨u3,rfl,ho3,hb3⟩;have fK:=hb2.trans (hb3.mono hb2.size);have hc3:=ik.out w3 fK;have jJ:=af ho3.ri;clear ho3;go_wp2_with fail)
       refine hK.out _ _ ?_ (fun hHeld=>?_)
       ·first | assumption | go_keep
       clear hK K;refine nH ?_;refine rH 35 (fun K hK=>?_)
       (rw [if_pos (by rfl)];go_simp;go_at_call 131;refine (jw k.ag (Kx.reach k.mem r) l _ _ _ _ (RS.below I1.out fK) jJ.out (RS.below R1.out fK) (fun f hf=>by rw [nM.out];exact jK f hf)).mono ?_;rintro e w4 ⟨rfl,hb4⟩;rw [Dk.out];have hb5:=fK.trans (hb4.mono fK.size);have hc5:=ik.out w4 hb5;go_wp2_with fail)
       refine hK.out _ _ ?_ (fun hHeld=>?_)
       ·first | assumption | go_keep
       clear hK K;refine nH ?_;refine tH 36 ?_;refine tH 37 ?_;refine wpAnyH_done (by kernel_rfl) ?_ _;have kV:=af (jH.out.trans (hb5.mono jH.out.size));clear S1;go_wp2_with fail;go_roundw
       case rel=>exact ⟨q+1,by go_num,by omega,ug.out,kV.out⟩
       case measure=>simp [intOf];omega
     obtain ⟨x0,rfl⟩:=Int.eq_ofNat_of_zero_le (Int.not_lt.1 hneg);have sD:x0<k.ag.length:=by rw [nM.out];have:=lL.out;omega
     have Oa:(x0:Int)<(k.ag.length:Int):=by omega
     obtain ⟨bi,oi,cap',ev,hbi,h4,_,_⟩:=bV.at I1.out sD;simp only [Value.slice.injEq] at ev;obtain ⟨rfl,_,rfl⟩:=ev;have PD:=af hbi;have Ob:=af h4;rw [Int.toNat_natCast] at bF;clear hbi h4 hneg sD;generalize (Kx.inf k.ag x0).kind=kd at Ob bF
     by_cases hk3:kd=3
     ·subst hk3
      cases hal:Kx.allowed k.ag (Kx.reach k.mem x0) l with
      | false =>
       have HF:=af (HB.out (by rw [bF.out,hal,Bool.and_false]));have nZ:=af oU;have jR:=af hin;have Dk:=af hal;clear oU hin hal HB HN bF;have ik:=af (show ∀ wz,Below W1.heap.size W1 wz→(wz.cell? ⟨w.heap.size,0,none⟩=some (.slice am k.mem.length cm)∧wz.cell? ⟨w.heap.size,1,none⟩=some (.slice (some ⟨bi,oi,none⟩) k.ag.length ci)∧wz.cell? ⟨wr.heap.size,0,none⟩=some (.slice x l.length y)∧wz.cell? ⟨wr.heap.size,1,none⟩=some (.int .i64 (x0:Int))∧wz.cell? ⟨bi,oi+x0*3,none⟩=some (.int .i64 3)) from fun wz hz =>
        ⟨(hz.cell (p:=⟨w.heap.size,0,none⟩) dS.out.2.2.2.2).trans dS.out.1,(hz.cell (p:=⟨w.heap.size,1,none⟩) dS.out.2.2.2.2).trans dS.out.2.1,(hz.cell (p:=⟨wr.heap.size,0,none⟩) Bx.out.2.2).trans Bx.out.1,(hz.cell (p:=⟨wr.heap.size,1,none⟩) Bx.out.2.2).trans Bx.out.2.1,(hz.cell (p:=⟨bi,oi+x0*3,none⟩) PD.out).trans Ob.out⟩)
       have S1:=ik.out W1 fZ;go_wp2_with fail;refine wp_region_held_drew (S:=(fun wz=>wz.cell? ⟨w.heap.size,0,none⟩=some (.slice am k.mem.length cm)∧wz.cell? ⟨w.heap.size,1,none⟩=some (.slice (some ⟨bi,oi,none⟩) k.ag.length ci)∧wz.cell? ⟨wr.heap.size,0,none⟩=some (.slice x l.length y)∧wz.cell? ⟨wr.heap.size,1,none⟩=some (.int .i64 (x0:Int))∧wz.cell? ⟨bi,oi+x0*3,none⟩=some (.int .i64 3))) (by kernel_rfl) (by first | assumption | go_keep) (fun hHeld=>?_)
       refine tH 0 ?_;refine tH 1 ?_;refine rH 2 (fun K hK=>?_)
       (rw [if_pos (by rfl)];go_simp;go_at_call 130;refine (di l _ W1.drew (show dK W1.drew _ _ from R1.out) uf.out).mono ?_;rintro e w2 ⟨rfl,nn,hw2⟩;rw [nZ.out];have hb2:Below W1.heap.size W1 w2:=(by rw [hw2];exact ⟨rfl,rfl,rfl,Nat.le_refl _,fun _ _=>rfl⟩);clear hw2;have hc2:=ik.out w2 hb2;go_wp2_with fail)
       refine hK.out _ _ ?_ (fun hHeld=>?_)
       ·first | assumption | go_keep
       clear hK K;refine nH ?_;refine tH 3 ?_;refine tH 4 ?_;refine tH 5 ?_;refine tH 6 ?_;refine rH 7 (fun K hK=>?_)
       (rw [if_pos (by rfl)];go_simp;go_at_call 99;refine (dJ _ _ _ _).mono ?_;rintro e w' ⟨rfl,rfl⟩;rw [jR.out];go_wp2_with fail)
       refine hK.out _ _ ?_ (fun hHeld=>?_)
       ·first | assumption | go_keep
       clear hK K;refine nH ?_;refine tH 8 ?_;refine tH 9 ?_;refine tH 10 ?_;refine tH 11 ?_;refine tH 12 ?_;refine tH 13 ?_;refine tH 14 ?_;refine tH 15 ?_;refine tH 16 ?_;refine tH 17 ?_;refine tH 18 ?_;refine tH 19 ?_;refine tH 20 ?_;refine tH 21 ?_;refine tH 22 ?_;refine tH 23 ?_;refine tH 24 ?_;refine tH 25 ?_;refine tH 26 ?_;refine tH 27 ?_;refine tH 28 ?_;refine tH 29 ?_;refine tH 30 ?_;refine tH 31 ?_;refine tH 33 ?_;refine tH 34 ?_;refine rH 32 (fun K hK=>?_)
       (rw [if_pos (by rfl)];go_simp;go_at_call 132;refine (kZ k.mem (x0:Int) _ _ (M1.out.below hb2) kG.out lL.out).mono ?_;rintro e w3 ⟨u3,rfl,ho3,hb3⟩;have fK:=hb2.trans (hb3.mono hb2.size);have hc3:=ik.out w3 fK;have jJ:=af ho3.ri;clear ho3;go_wp2_with fail)
       refine hK.out _ _ ?_ (fun hHeld=>?_)
       ·first | assumption | go_keep
       clear hK K;refine nH ?_;refine rH 35 (fun K hK=>?_)
       (rw [if_pos (by rfl)];go_simp;go_at_call 131;refine (jw k.ag (Kx.reach k.mem (x0:Int)) l _ _ _ _ (RS.below I1.out fK) jJ.out (RS.below R1.out fK) (fun f hf=>by rw [nM.out];exact jK f hf)).mono ?_;rintro e w4 ⟨rfl,hb4⟩;rw [Dk.out];have hb5:=fK.trans (hb4.mono fK.size);have hc5:=ik.out w4 hb5;go_wp2_with fail)
       refine hK.out _ _ ?_ (fun hHeld=>?_)
       ·first | assumption | go_keep
       clear hK K;refine nH ?_;refine tH 36 ?_;refine tH 37 ?_;refine wpAnyH_done (by kernel_rfl) ?_ _;have kV:=af (jH.out.trans (hb5.mono jH.out.size));clear S1;go_wp2_with fail;go_ret;exact ⟨ak HF.out.symm,dB.out.trans (kV.out.mono dB.out.size)⟩
      | true =>
       have ug:=af (HN.out (by rw [bF.out,oU,hin,hal];simp));have nZ:=af oU;have jR:=af hin;have Dk:=af hal;clear oU hin hal HB HN bF;have ik:=af (show ∀ wz,Below W1.heap.size W1 wz→(wz.cell? ⟨w.heap.size,0,none⟩=some (.slice am k.mem.length cm)∧wz.cell? ⟨w.heap.size,1,none⟩=some (.slice (some ⟨bi,oi,none⟩) k.ag.length ci)∧wz.cell? ⟨wr.heap.size,0,none⟩=some (.slice x l.length y)∧wz.cell? ⟨wr.heap.size,1,none⟩=some (.int .i64 (x0:Int))∧wz.cell? ⟨bi,oi+x0*3,none⟩=some (.int .i64 3)) from fun wz hz =>
        ⟨(hz.cell (p:=⟨w.heap.size,0,none⟩) dS.out.2.2.2.2).trans dS.out.1,(hz.cell (p:=⟨w.heap.size,1,none⟩) dS.out.2.2.2.2).trans dS.out.2.1,(hz.cell (p:=⟨wr.heap.size,0,none⟩) Bx.out.2.2).trans Bx.out.1,(hz.cell (p:=⟨wr.heap.size,1,none⟩) Bx.out.2.2).trans Bx.out.2.1,(hz.cell (p:=⟨bi,oi+x0*3,none⟩) PD.out).trans Ob.out⟩)
       have S1:=ik.out W1 fZ;go_wp2_with fail;refine wp_region_held_drew (S:=(fun wz=>wz.cell? ⟨w.heap.size,0,none⟩=some (.slice am k.mem.length cm)∧wz.cell? ⟨w.heap.size,1,none⟩=some (.slice (some ⟨bi,oi,none⟩) k.ag.length ci)∧wz.cell? ⟨wr.heap.size,0,none⟩=some (.slice x l.length y)∧wz.cell? ⟨wr.heap.size,1,none⟩=some (.int .i64 (x0:Int))∧wz.cell? ⟨bi,oi+x0*3,none⟩=some (.int .i64 3))) (by kernel_rfl) (by first | assumption | go_keep) (fun hHeld=>?_)
       refine tH 0 ?_;refine tH 1 ?_;refine rH 2 (fun K hK=>?_)
       (rw [if_pos (by rfl)];go_simp;go_at_call 130;refine (di l _ W1.drew (show dK W1.drew _ _ from R1.out) uf.out).mono ?_;rintro e w2 ⟨rfl,nn,hw2⟩;rw [nZ.out];have hb2:Below W1.heap.size W1 w2:=(by rw [hw2];exact ⟨rfl,rfl,rfl,Nat.le_refl _,fun _ _=>rfl⟩);clear hw2;have hc2:=ik.out w2 hb2;go_wp2_with fail)
       refine hK.out _ _ ?_ (fun hHeld=>?_)
       ·first | assumption | go_keep
       clear hK K;refine nH ?_;refine tH 3 ?_;refine tH 4 ?_;refine tH 5 ?_;refine tH 6 ?_;refine rH 7 (fun K hK=>?_)
       (rw [if_pos (by rfl)];go_simp;go_at_call 99;refine (dJ _ _ _ _).mono ?_;rintro e w' ⟨rfl,rfl⟩;rw [jR.out];go_wp2_with fail)
       refine hK.out _ _ ?_ (fun hHeld=>?_)
       ·first | assumption | go_keep
       clear hK K;refine nH ?_;refine tH 8 ?_;refine tH 9 ?_;refine tH 10 ?_;refine tH 11 ?_;refine tH 12 ?_;refine tH 13 ?_;refine tH 14 ?_;refine tH 15 ?_;refine tH 16 ?_;refine tH 17 ?_;refine tH 18 ?_;refine tH 19 ?_;refine tH 20 ?_;refine tH 21 ?_;refine tH 22 ?_;refine tH 23 ?_;refine tH 24 ?_;refine tH 25 ?_;refine tH 26 ?_;refine tH 27 ?_;refine tH 28 ?_;refine tH 29 ?_;refine tH 30 ?_;refine tH 31 ?_;refine tH 33 ?_;refine tH 34 ?_;refine rH 32 (fun K hK=>?_)
       (rw [if_pos (by rfl)];go_simp;go_at_call 132;refine (kZ k.mem (x0:Int) _ _ (M1.out.below hb2) kG.out lL.out).mono ?_;rintro e w3 ⟨u3,rfl,ho3,hb3⟩;have fK:=hb2.trans (hb3.mono hb2.size);have hc3:=ik.out w3 fK;have jJ:=af ho3.ri;clear ho3;go_wp2_with fail)
       refine hK.out _ _ ?_ (fun hHeld=>?_)
       ·first | assumption | go_keep
       clear hK K;refine nH ?_;refine rH 35 (fun K hK=>?_)
       (rw [if_pos (by rfl)];go_simp;go_at_call 131;refine (jw k.ag (Kx.reach k.mem (x0:Int)) l _ _ _ _ (RS.below I1.out fK) jJ.out (RS.below R1.out fK) (fun f hf=>by rw [nM.out];exact jK f hf)).mono ?_;rintro e w4 ⟨rfl,hb4⟩;rw [Dk.out];have hb5:=fK.trans (hb4.mono fK.size);have hc5:=ik.out w4 hb5;go_wp2_with fail)
       refine hK.out _ _ ?_ (fun hHeld=>?_)
       ·first | assumption | go_keep
       clear hK K;refine nH ?_;refine tH 36 ?_;refine tH 37 ?_;refine wpAnyH_done (by kernel_rfl) ?_ _;have kV:=af (jH.out.trans (hb5.mono jH.out.size));clear S1;go_wp2_with fail;go_roundw
       case rel=>exact ⟨q+1,by go_num,by omega,ug.out,kV.out⟩
       case measure=>simp [intOf];omega
     have hkb:(kd != 3)=true:=by simpa using hk3
     have HF:=af (HB.out (by rw [bF.out,show (kd==3)=false from by simpa using hk3,show decide ((x0:Int)<0)=false from by simp];simp));have nZ:=af oU;have jR:=af hin;clear oU hin HB HN bF hk3;have ik:=af (show ∀ wz,Below W1.heap.size W1 wz→(wz.cell? ⟨w.heap.size,0,none⟩=some (.slice am k.mem.length cm)∧wz.cell? ⟨w.heap.size,1,none⟩=some (.slice (some ⟨bi,oi,none⟩) k.ag.length ci)∧wz.cell? ⟨wr.heap.size,0,none⟩=some (.slice x l.length y)∧wz.cell? ⟨wr.heap.size,1,none⟩=some (.int .i64 (x0:Int))∧wz.cell? ⟨bi,oi+x0*3,none⟩=some (.int .i64 kd)) from fun wz hz =>
      ⟨(hz.cell (p:=⟨w.heap.size,0,none⟩) dS.out.2.2.2.2).trans dS.out.1,(hz.cell (p:=⟨w.heap.size,1,none⟩) dS.out.2.2.2.2).trans dS.out.2.1,(hz.cell (p:=⟨wr.heap.size,0,none⟩) Bx.out.2.2).trans Bx.out.1,(hz.cell (p:=⟨wr.heap.size,1,none⟩) Bx.out.2.2).trans Bx.out.2.1,(hz.cell (p:=⟨bi,oi+x0*3,none⟩) PD.out).trans Ob.out⟩)
     have S1:=ik.out W1 fZ;go_wp2_with fail;refine wp_region_held_drew (S:=(fun wz=>wz.cell? ⟨w.heap.size,0,none⟩=some (.slice am k.mem.length cm)∧wz.cell? ⟨w.heap.size,1,none⟩=some (.slice (some ⟨bi,oi,none⟩) k.ag.length ci)∧wz.cell? ⟨wr.heap.size,0,none⟩=some (.slice x l.length y)∧wz.cell? ⟨wr.heap.size,1,none⟩=some (.int .i64 (x0:Int))∧wz.cell? ⟨bi,oi+x0*3,none⟩=some (.int .i64 kd))) (by kernel_rfl) (by first | assumption | go_keep) (fun hHeld=>?_)
     refine tH 0 ?_;refine tH 1 ?_;refine rH 2 (fun K hK=>?_)
     (rw [if_pos (by rfl)];go_simp;go_at_call 130;refine (di l _ W1.drew (show dK W1.drew _ _ from R1.out) uf.out).mono ?_;rintro e w2 ⟨rfl,nn,hw2⟩;rw [nZ.out];have hb2:Below W1.heap.size W1 w2:=(by rw [hw2];exact ⟨rfl,rfl,rfl,Nat.le_refl _,fun _ _=>rfl⟩);clear hw2;have hc2:=ik.out w2 hb2;go_wp2_with fail)
     refine hK.out _ _ ?_ (fun hHeld=>?_)
     ·first | assumption | go_keep
     clear hK K;refine nH ?_;refine tH 3 ?_;refine tH 4 ?_;refine tH 5 ?_;refine tH 6 ?_;refine rH 7 (fun K hK=>?_)
     (rw [if_pos (by rfl)];go_simp;go_at_call 99;refine (dJ _ _ _ _).mono ?_;rintro e w' ⟨rfl,rfl⟩;rw [jR.out];go_wp2_with fail)
     refine hK.out _ _ ?_ (fun hHeld=>?_)
     ·first | assumption | go_keep
     clear hK K;refine nH ?_;refine tH 8 ?_;refine tH 9 ?_;refine tH 10 ?_;refine tH 11 ?_;refine tH 12 ?_;refine tH 13 ?_;refine tH 14 ?_;refine tH 15 ?_;refine tH 16 ?_;refine tH 17 ?_;refine tH 18 ?_;refine tH 19 ?_;refine tH 20 ?_;refine tH 21 ?_;refine tH 22 ?_;refine tH 23 ?_;refine tH 24 ?_;refine tH 25 ?_;refine sH 26 ?_;refine sH 27 ?_;refine sH 28 ?_;refine sH 29 ?_;refine sH 30 ?_;refine sH 31 ?_;refine sH 32 ?_;refine sH 33 ?_;refine sH 34 ?_;refine sH 35 ?_;refine sH 36 ?_;refine tH 37 ?_;refine wpAnyH_done (by kernel_rfl) ?_ _;have kV:=af (jH.out.trans (hb2.mono jH.out.size));clear S1;go_wp2_with fail;go_ret;exact ⟨ak HF.out.symm,dB.out.trans (kV.out.mono dB.out.size)⟩
  have HF:=af (show Kx.iw k=(k.ah.length==3) by
   unfold Kx.iw;rw [oZ,show (List.range k.ah.length).all (Ah k)=true from by
    rw [List.all_eq_true]; exact fun j hj => hall.out j (by have : j < k.ah.length := by simpa using hj
                                                            omega),Bool.true_and])
  obtain ⟨k0,k1,k2,k3,hbl⟩:=jF.out.below hb.out;go_wp2_with fail;go_ret;exact ⟨ak (by rw [HF.out];exact Bool.eq_iff_iff.2 (by simp;omega)),dB.out.trans (hb.out.mono dB.out.size)⟩
end Go.Proofs.YtliebkfligagnaaGreatDoor
