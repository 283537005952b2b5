/- Contracts: spec.l21Envs. (printed by kw12.py) -/
import Derived.Test.YtenebmeaoidnoaaGreatDoorKW11
import Derived.Test.YtenebmeaoidnoaaGreatDoorKR
import Derived.Test.YtenebmeaoidnoaaGreatDoorKY
namespace Go.Proofs.YtenebmeaoidnoaaGreatDoor
open Go.RowKit
/-- the i-th environment is valid -/
def eOk (k:Kx.Kernel) (i:Nat):Bool:=Kx.envOk k (Kx.envAt k.envs i)
theorem eOk_all (k:Kx.Kernel):k.envs.all (Kx.envOk k)=(List.range k.envs.length).all (eOk k):=by
  rw [Bool.eq_iff_iff,List.all_eq_true,List.all_eq_true];constructor
  · intro h i hi;have hi:i<k.envs.length:=by simpa using hi
    have e:Kx.envAt k.envs i=k.envs[i]:=by simp [Kx.envAt,hi]
    unfold eOk;rw [e];exact h _ (List.getElem_mem hi)
  · intro h x hx;obtain ⟨i,hi,rfl⟩:=List.getElem_of_mem hx;have:=h i (by simpa using hi);have e:Kx.envAt k.envs i=k.envs[i]:=by simp [Kx.envAt,hi]
    unfold eOk at this;rwa [e] at this
theorem reach_lt {m:List (List Int)} {r:Int}:∀ f ∈ Kx.reach m r,f<12:=by
  unfold Kx.reach Kx.sortedF;split
  · simp
  · intro f hf;have:=(List.mem_filter.1 hf).1;simpa using this
/-- strings of environments have lengths of Go -/
def SaneE (l:List Kx.Env):Prop:=∀ e,e<l.length→SaneS (Kx.envAt l e).rights
theorem Box2.new (w:World) (v0 v1:Value) (e:TypeId):(w.alloc (.cells #[v0,v1] e)).cell? ⟨w.heap.size,0,none⟩=some v0∧(w.alloc (.cells #[v0,v1] e)).cell? ⟨w.heap.size,1,none⟩=some v1∧w.heap.size<(w.alloc (.cells #[v0,v1] e)).heap.size:=by
  have h:(w.alloc (.cells #[v0,v1] e)).heap[w.heap.size]?=some (.cells #[v0,v1] e (0,0)):=heap_alloc_new w _;exact ⟨cell_of_row _ _ 0 _ _ _ h,cell_of_row _ _ 1 _ _ _ h,by simp⟩
set_option maxHeartbeats 4000000 in
theorem l21Envs_c (k:Kx.Kernel) (vm vi ve vc:Value) (w:World) (h:RK w vm vi ve vc k) (hmo:Kx.memOk k.mem=true) (hio:k.infos.length=12) (hse:SaneE k.envs) :
    Calls Tryz.prog 47 #[.agg #[vm,vi,ve,vc]] w fun e w'=>e=.returned (.bool (Kx.envsOk k))∧Below w.heap.size w w':=by
  obtain ⟨w0,hw0⟩:∃ w0,w.alloc (.cells #[vm,vi,ve,vc] 28)=w0:=⟨_,rfl⟩;have Hw0:=hI_ (show Below w.heap.size w w0 from hw0 ▸ (Below.refl w.heap.size w).alloc nR_ _);have Hbx:=hI_ (show Box4 w0 w.heap.size vm vi ve vc from hw0 ▸ Box4.new w vm vi ve vc _);have HK:=hI_ (h.below Hw0.out);obtain ⟨hel,ae,ce,rfl,_,_⟩:=h.e.len;obtain ⟨ai,ci,rfl,_,_⟩:=RS.val h.i;obtain ⟨_,am,cm,rfl,_,_⟩:=h.m.len;have Hio:=hI_ hio;have Hmo:=hI_ hmo;have Hse:=hI_ hse;clear h hio hmo hse;go_enter Tryz.func47,Tryz.ntmps47;go_wp2_with fail;clear hw0;go_loopw [3] (fun i wr=>∃ q:Nat,i=.int .i64 q∧q≤k.envs.length∧Hid (∀ j,j<q→eOk k j=true)∧Hid (Below w0.heap.size w0 wr)) (fun i _=>k.envs.length - (intOf i).toNat)
  case atStart=>exact ⟨0,rfl,Nat.zero_le _,fun j hj=>absurd hj (Nat.not_lt_zero _),Below.refl _ _⟩
  case round =>
    obtain ⟨q,rfl,hq,hall,hb⟩:=hrel
    by_cases hlt:q<k.envs.length
    · obtain ⟨k0,k1,k2,k3,hbl⟩:=Hbx.out.below hb.out;obtain ⟨b,off,cap,u,ev,hbb,h1,h2,h3⟩:=(HK.out.e.below hb.out).at hlt;simp only [Value.slice.injEq] at ev;obtain ⟨rfl,_,rfl⟩:=ev;have hlI:(q:Int)<(k.envs.length:Int):=by omega
      have HR:=hI_ h3;have Hsz:=hI_ (Hse.out q hlt);have HB:=hI_ (show eOk k q=false→Kx.envsOk k=false from fun h=>by
        unfold Kx.envsOk;rw [eOk_all,Bool.and_eq_false_iff,List.all_eq_false];exact .inl ⟨q,by simpa using hlt,by rw [h];simp⟩)
      have HN:=hI_ (show eOk k q=true→∀ j,j<q+1→eOk k j=true from fun h=>scan_step hall.out h);have Hok:=hI_ (show eOk k q=(Kx.rightsOk (Kx.envAt k.envs q).rights&&Kx.inR (Kx.envAt k.envs q).root (-1) 11&&(decide ((Kx.envAt k.envs q).root<0)||(Kx.inf k.infos (Kx.envAt k.envs q).root.toNat).kind==3)&&Kx.allowed k.infos (Kx.reach k.mem (Kx.envAt k.envs q).root) (Kx.envAt k.envs q).rights) from rfl);clear h3;generalize (Kx.envAt k.envs q).root=r at h2 Hok;generalize (Kx.envAt k.envs q).rights=l at HR Hsz Hok;obtain ⟨x,y,hx,hv1,hv2⟩:=RS.val HR.out;subst hx;have Hbl:=hI_ hbl;have Hbb:=hI_ hbb;clear hbl hbb k3;obtain ⟨W1,hW1⟩:∃ W1,wr.alloc (.cells #[.slice x l.length y,.int .i64 r] 40)=W1:=⟨_,rfl⟩;have B1:=hI_ (show Below wr.heap.size wr W1 from hW1 ▸ bL_)
      have Bx:=hI_ (show W1.cell? ⟨wr.heap.size,0,none⟩=some (.slice x l.length y)∧W1.cell? ⟨wr.heap.size,1,none⟩=some (.int .i64 r)∧wr.heap.size<W1.heap.size from hW1 ▸ Box2.new wr (.slice x l.length y) (.int .i64 r) 40);have B01:=hI_ (hb.out.trans (B1.out.mono hb.out.size));have M1:=hI_ (HK.out.m.below B01.out);have I1:=hI_ (RS.below HK.out.i B01.out);have R1:=hI_ (RS.below HR.out B1.out);have Hbx1:=hI_ (Hbx.out.below B01.out)
      cases hrv:Kx.rightsOk l with
      | false =>
        have HF:=hI_ (HB.out (by rw [Hok.out,hrv];rfl));have Hrv:=hI_ hrv;clear hrv HB HN Hok;have Hcl:=hI_ (show ∀ wz,Below W1.heap.size W1 wz→(wz.cell? ⟨w.heap.size,0,none⟩=some (.slice am k.mem.length cm)∧wz.cell? ⟨w.heap.size,1,none⟩=some (.slice ai k.infos.length ci)∧wz.cell? ⟨wr.heap.size,0,none⟩=some (.slice x l.length y)∧wz.cell? ⟨wr.heap.size,1,none⟩=some (.int .i64 r)) from fun wz hz =>
          ⟨(hz.cell (p:=⟨w.heap.size,0,none⟩) Hbx1.out.2.2.2.2).trans Hbx1.out.1,(hz.cell (p:=⟨w.heap.size,1,none⟩) Hbx1.out.2.2.2.2).trans Hbx1.out.2.1,(hz.cell (p:=⟨wr.heap.size,0,none⟩) Bx.out.2.2).trans Bx.out.1,(hz.cell (p:=⟨wr.heap.size,1,none⟩) Bx.out.2.2).trans Bx.out.2.1⟩)
        have S1:=Hcl.out W1 bR_;go_wp2_with fail;refine wp_region_held_drew (S:=(fun wz=>wz.cell? ⟨w.heap.size,0,none⟩=some (.slice am k.mem.length cm)∧wz.cell? ⟨w.heap.size,1,none⟩=some (.slice ai k.infos.length ci)∧wz.cell? ⟨wr.heap.size,0,none⟩=some (.slice x l.length y)∧wz.cell? ⟨wr.heap.size,1,none⟩=some (.int .i64 r))) (by kernel_rfl) (by first | assumption | go_keep) (fun hHeld=>?_)
        refine tH 0 ?_;refine tH 1 ?_;refine rH 2 (fun K hK=>?_)
        (rw [if_pos (by rfl)];go_simp;go_at_call 89;refine (specRightsValid_c l _ W1.drew (show RStr W1.drew _ _ from R1.out) Hsz.out).mono ?_;rintro e w2 ⟨rfl,nn,hw2⟩;rw [Hrv.out];have hb2:Below W1.heap.size W1 w2:=(by rw [hw2];exact ⟨rfl,rfl,rfl,Nat.le_refl _,fun _ _=>rfl⟩);clear hw2;have hc2:=Hcl.out w2 hb2;go_wp2_with fail)
        refine hK.out _ _ ?_ (fun hHeld=>?_)
        · first | assumption | go_keep
        clear hK K;refine nH ?_;refine tH 3 ?_;refine tH 4 ?_;refine sH 5 ?_;refine sH 6 ?_;refine sH 7 ?_;refine sH 8 ?_;refine tH 9 ?_;refine tH 10 ?_;refine sH 11 ?_;refine sH 12 ?_;refine sH 13 ?_;refine sH 14 ?_;refine sH 15 ?_;refine sH 16 ?_;refine sH 17 ?_;refine sH 18 ?_;refine sH 19 ?_;refine sH 20 ?_;refine sH 21 ?_;refine sH 22 ?_;refine sH 23 ?_;refine tH 24 ?_;refine tH 25 ?_;refine sH 26 ?_;refine sH 27 ?_;refine sH 28 ?_;refine sH 29 ?_;refine sH 30 ?_;refine sH 31 ?_;refine sH 32 ?_;refine sH 33 ?_;refine sH 34 ?_;refine sH 35 ?_;refine sH 36 ?_;refine tH 37 ?_;refine wpAnyH_done (by kernel_rfl) ?_ _;have Hb9:=hI_ (B01.out.trans (hb2.mono B01.out.size));clear S1;go_wp2_with fail;go_ret;exact ⟨ret_bool HF.out.symm,Hw0.out.trans (Hb9.out.mono Hw0.out.size)⟩
      | true =>
        cases hin:Kx.inR r (-1) 11 with
        | false =>
          have HF:=hI_ (HB.out (by rw [Hok.out,hrv,hin];rfl));have Hrv:=hI_ hrv;have Hin:=hI_ hin;clear hrv hin HB HN Hok;have Hcl:=hI_ (show ∀ wz,Below W1.heap.size W1 wz→(wz.cell? ⟨w.heap.size,0,none⟩=some (.slice am k.mem.length cm)∧wz.cell? ⟨w.heap.size,1,none⟩=some (.slice ai k.infos.length ci)∧wz.cell? ⟨wr.heap.size,0,none⟩=some (.slice x l.length y)∧wz.cell? ⟨wr.heap.size,1,none⟩=some (.int .i64 r)) from fun wz hz =>
            ⟨(hz.cell (p:=⟨w.heap.size,0,none⟩) Hbx1.out.2.2.2.2).trans Hbx1.out.1,(hz.cell (p:=⟨w.heap.size,1,none⟩) Hbx1.out.2.2.2.2).trans Hbx1.out.2.1,(hz.cell (p:=⟨wr.heap.size,0,none⟩) Bx.out.2.2).trans Bx.out.1,(hz.cell (p:=⟨wr.heap.size,1,none⟩) Bx.out.2.2).trans Bx.out.2.1⟩)
          have S1:=Hcl.out W1 bR_;go_wp2_with fail;refine wp_region_held_drew (S:=(fun wz=>wz.cell? ⟨w.heap.size,0,none⟩=some (.slice am k.mem.length cm)∧wz.cell? ⟨w.heap.size,1,none⟩=some (.slice ai k.infos.length ci)∧wz.cell? ⟨wr.heap.size,0,none⟩=some (.slice x l.length y)∧wz.cell? ⟨wr.heap.size,1,none⟩=some (.int .i64 r))) (by kernel_rfl) (by first | assumption | go_keep) (fun hHeld=>?_)
          refine tH 0 ?_;refine tH 1 ?_;refine rH 2 (fun K hK=>?_)
          (rw [if_pos (by rfl)];go_simp;go_at_call 89;refine (specRightsValid_c l _ W1.drew (show RStr W1.drew _ _ from R1.out) Hsz.out).mono ?_;rintro e w2 ⟨rfl,nn,hw2⟩;rw [Hrv.out];have hb2:Below W1.heap.size W1 w2:=(by rw [hw2];exact ⟨rfl,rfl,rfl,Nat.le_refl _,fun _ _=>rfl⟩);clear hw2;have hc2:=Hcl.out w2 hb2;go_wp2_with fail)
          refine hK.out _ _ ?_ (fun hHeld=>?_)
          · first | assumption | go_keep
          clear hK K;refine nH ?_;refine tH 3 ?_;refine tH 4 ?_;refine tH 5 ?_;refine tH 6 ?_;refine rH 7 (fun K hK=>?_)
          (rw [if_pos (by rfl)];go_simp;go_at_call 90;refine (l6InK_c _ _ _ _).mono ?_;rintro e w' ⟨rfl,rfl⟩;rw [Hin.out];go_wp2_with fail)
          refine hK.out _ _ ?_ (fun hHeld=>?_)
          · first | assumption | go_keep
          clear hK K;refine nH ?_;refine tH 8 ?_;refine tH 9 ?_;refine tH 10 ?_;refine sH 11 ?_;refine sH 12 ?_;refine sH 13 ?_;refine sH 14 ?_;refine sH 15 ?_;refine sH 16 ?_;refine sH 17 ?_;refine sH 18 ?_;refine sH 19 ?_;refine sH 20 ?_;refine sH 21 ?_;refine sH 22 ?_;refine sH 23 ?_;refine tH 24 ?_;refine tH 25 ?_;refine sH 26 ?_;refine sH 27 ?_;refine sH 28 ?_;refine sH 29 ?_;refine sH 30 ?_;refine sH 31 ?_;refine sH 32 ?_;refine sH 33 ?_;refine sH 34 ?_;refine sH 35 ?_;refine sH 36 ?_;refine tH 37 ?_;refine wpAnyH_done (by kernel_rfl) ?_ _;have Hb9:=hI_ (B01.out.trans (hb2.mono B01.out.size));clear S1;go_wp2_with fail;go_ret;exact ⟨ret_bool HF.out.symm,Hw0.out.trans (Hb9.out.mono Hw0.out.size)⟩
        | true =>
          have hr11:=hI_ (Kx.inR_true.1 hin).2
          by_cases hneg:r<0
          · have hn0:decide (0≤r)=false:=by simpa using hneg
            have Hng:=hI_ hneg;clear hneg
            cases hal:Kx.allowed k.infos (Kx.reach k.mem r) l with
            | false =>
              have HF:=hI_ (HB.out (by rw [Hok.out,hal,Bool.and_false]));have Hrv:=hI_ hrv;have Hin:=hI_ hin;have Hal:=hI_ hal;clear hrv hin hal HB HN Hok;have Hcl:=hI_ (show ∀ wz,Below W1.heap.size W1 wz→(wz.cell? ⟨w.heap.size,0,none⟩=some (.slice am k.mem.length cm)∧wz.cell? ⟨w.heap.size,1,none⟩=some (.slice ai k.infos.length ci)∧wz.cell? ⟨wr.heap.size,0,none⟩=some (.slice x l.length y)∧wz.cell? ⟨wr.heap.size,1,none⟩=some (.int .i64 r)) from fun wz hz =>
                ⟨(hz.cell (p:=⟨w.heap.size,0,none⟩) Hbx1.out.2.2.2.2).trans Hbx1.out.1,(hz.cell (p:=⟨w.heap.size,1,none⟩) Hbx1.out.2.2.2.2).trans Hbx1.out.2.1,(hz.cell (p:=⟨wr.heap.size,0,none⟩) Bx.out.2.2).trans Bx.out.1,(hz.cell (p:=⟨wr.heap.size,1,none⟩) Bx.out.2.2).trans Bx.out.2.1⟩)
              have S1:=Hcl.out W1 bR_;go_wp2_with fail;refine wp_region_held_drew (S:=(fun wz=>wz.cell? ⟨w.heap.size,0,none⟩=some (.slice am k.mem.length cm)∧wz.cell? ⟨w.heap.size,1,none⟩=some (.slice ai k.infos.length ci)∧wz.cell? ⟨wr.heap.size,0,none⟩=some (.slice x l.length y)∧wz.cell? ⟨wr.heap.size,1,none⟩=some (.int .i64 r))) (by kernel_rfl) (by first | assumption | go_keep) (fun hHeld=>?_)
              refine tH 0 ?_;refine tH 1 ?_;refine rH 2 (fun K hK=>?_)
              (rw [if_pos (by rfl)];go_simp;go_at_call 89;refine (specRightsValid_c l _ W1.drew (show RStr W1.drew _ _ from R1.out) Hsz.out).mono ?_;rintro e w2 ⟨rfl,nn,hw2⟩;rw [Hrv.out];have hb2:Below W1.heap.size W1 w2:=(by rw [hw2];exact ⟨rfl,rfl,rfl,Nat.le_refl _,fun _ _=>rfl⟩);clear hw2;have hc2:=Hcl.out w2 hb2;go_wp2_with fail)
              refine hK.out _ _ ?_ (fun hHeld=>?_)
              · first | assumption | go_keep
              clear hK K;refine nH ?_;refine tH 3 ?_;refine tH 4 ?_;refine tH 5 ?_;refine tH 6 ?_;refine rH 7 (fun K hK=>?_)
              (rw [if_pos (by rfl)];go_simp;go_at_call 90;refine (l6InK_c _ _ _ _).mono ?_;rintro e w' ⟨rfl,rfl⟩;rw [Hin.out];go_wp2_with fail)
              refine hK.out _ _ ?_ (fun hHeld=>?_)
              · first | assumption | go_keep
              clear hK K;refine nH ?_;refine tH 8 ?_;refine tH 9 ?_;refine tH 10 ?_;refine tH 11 ?_;refine tH 12 ?_;refine tH 13 ?_;refine tH 14 ?_;refine sH 15 ?_;refine sH 16 ?_;refine sH 17 ?_;refine sH 18 ?_;refine sH 19 ?_;refine sH 20 ?_;refine sH 21 ?_;refine sH 22 ?_;refine tH 23 ?_;refine tH 24 ?_;refine tH 25 ?_;refine tH 26 ?_;refine tH 27 ?_;refine tH 28 ?_;refine tH 29 ?_;refine tH 30 ?_;refine tH 31 ?_;refine tH 33 ?_;refine tH 34 ?_;refine rH 32 (fun K hK=>?_)
              (rw [if_pos (by rfl)];go_simp;go_at_call 60;refine (l21Reach_c k.mem r _ _ (M1.out.below hb2) Hmo.out hr11.out).mono ?_;rintro e w3 ⟨u3,rfl,ho3,hb3⟩;have hb23:=hb2.trans (hb3.mono hb2.size);have hc3:=Hcl.out w3 hb23;have Ho3:=hI_ ho3.ri;clear ho3;go_wp2_with fail)
              refine hK.out _ _ ?_ (fun hHeld=>?_)
              · first | assumption | go_keep
              clear hK K;refine nH ?_;refine rH 35 (fun K hK=>?_)
              (rw [if_pos (by rfl)];go_simp;go_at_call 91;refine (l21Allowed_c k.infos (Kx.reach k.mem r) l _ _ _ _ (RS.below I1.out hb23) Ho3.out (RS.below R1.out hb23) (fun f hf=>by rw [Hio.out];exact reach_lt f hf)).mono ?_;rintro e w4 ⟨rfl,hb4⟩;rw [Hal.out];have hb5:=hb23.trans (hb4.mono hb23.size);have hc5:=Hcl.out w4 hb5;go_wp2_with fail)
              refine hK.out _ _ ?_ (fun hHeld=>?_)
              · first | assumption | go_keep
              clear hK K;refine nH ?_;refine tH 36 ?_;refine tH 37 ?_;refine wpAnyH_done (by kernel_rfl) ?_ _;have Hb9:=hI_ (B01.out.trans (hb5.mono B01.out.size));clear S1;go_wp2_with fail;go_ret;exact ⟨ret_bool HF.out.symm,Hw0.out.trans (Hb9.out.mono Hw0.out.size)⟩
            | true =>
              have HN2:=hI_ (HN.out (by rw [Hok.out,hrv,hin,hal];simp [Hng.out]));have Hrv:=hI_ hrv;have Hin:=hI_ hin;have Hal:=hI_ hal;clear hrv hin hal HB HN Hok;have Hcl:=hI_ (show ∀ wz,Below W1.heap.size W1 wz→(wz.cell? ⟨w.heap.size,0,none⟩=some (.slice am k.mem.length cm)∧wz.cell? ⟨w.heap.size,1,none⟩=some (.slice ai k.infos.length ci)∧wz.cell? ⟨wr.heap.size,0,none⟩=some (.slice x l.length y)∧wz.cell? ⟨wr.heap.size,1,none⟩=some (.int .i64 r)) from fun wz hz =>
                ⟨(hz.cell (p:=⟨w.heap.size,0,none⟩) Hbx1.out.2.2.2.2).trans Hbx1.out.1,(hz.cell (p:=⟨w.heap.size,1,none⟩) Hbx1.out.2.2.2.2).trans Hbx1.out.2.1,(hz.cell (p:=⟨wr.heap.size,0,none⟩) Bx.out.2.2).trans Bx.out.1,(hz.cell (p:=⟨wr.heap.size,1,none⟩) Bx.out.2.2).trans Bx.out.2.1⟩)
              have S1:=Hcl.out W1 bR_;go_wp2_with fail;refine wp_region_held_drew (S:=(fun wz=>wz.cell? ⟨w.heap.size,0,none⟩=some (.slice am k.mem.length cm)∧wz.cell? ⟨w.heap.size,1,none⟩=some (.slice ai k.infos.length ci)∧wz.cell? ⟨wr.heap.size,0,none⟩=some (.slice x l.length y)∧wz.cell? ⟨wr.heap.size,1,none⟩=some (.int .i64 r))) (by kernel_rfl) (by first | assumption | go_keep) (fun hHeld=>?_)
              refine tH 0 ?_;refine tH 1 ?_;refine rH 2 (fun K hK=>?_)
              (rw [if_pos (by rfl)];go_simp;go_at_call 89;refine (specRightsValid_c l _ W1.drew (show RStr W1.drew _ _ from R1.out) Hsz.out).mono ?_;rintro e w2 ⟨rfl,nn,hw2⟩;rw [Hrv.out];have hb2:Below W1.heap.size W1 w2:=(by rw [hw2];exact ⟨rfl,rfl,rfl,Nat.le_refl _,fun _ _=>rfl⟩);clear hw2;have hc2:=Hcl.out w2 hb2;go_wp2_with fail)
              refine hK.out _ _ ?_ (fun hHeld=>?_)
              · first | assumption | go_keep
              clear hK K;refine nH ?_;refine tH 3 ?_;refine tH 4 ?_;refine tH 5 ?_;refine tH 6 ?_;refine rH 7 (fun K hK=>?_)
              (rw [if_pos (by rfl)];go_simp;go_at_call 90;refine (l6InK_c _ _ _ _).mono ?_;rintro e w' ⟨rfl,rfl⟩;rw [Hin.out];go_wp2_with fail)
              refine hK.out _ _ ?_ (fun hHeld=>?_)
              · first | assumption | go_keep
              clear hK K;refine nH ?_;refine tH 8 ?_;refine tH 9 ?_;refine tH 10 ?_;refine tH 11 ?_;refine tH 12 ?_;refine tH 13 ?_;refine tH 14 ?_;refine sH 15 ?_;refine sH 16 ?_;refine sH 17 ?_;refine sH 18 ?_;refine sH 19 ?_;refine sH 20 ?_;refine sH 21 ?_;refine sH 22 ?_;refine tH 23 ?_;refine tH 24 ?_;refine tH 25 ?_;refine tH 26 ?_;refine tH 27 ?_;refine tH 28 ?_;refine tH 29 ?_;refine tH 30 ?_;refine tH 31 ?_;refine tH 33 ?_;refine tH 34 ?_;refine rH 32 (fun K hK=>?_)
              (rw [if_pos (by rfl)];go_simp;go_at_call 60;refine (l21Reach_c k.mem r _ _ (M1.out.below hb2) Hmo.out hr11.out).mono ?_;rintro e w3 ⟨u3,rfl,ho3,hb3⟩;have hb23:=hb2.trans (hb3.mono hb2.size);have hc3:=Hcl.out w3 hb23;have Ho3:=hI_ ho3.ri;clear ho3;go_wp2_with fail)
              refine hK.out _ _ ?_ (fun hHeld=>?_)
              · first | assumption | go_keep
              clear hK K;refine nH ?_;refine rH 35 (fun K hK=>?_)
              (rw [if_pos (by rfl)];go_simp;go_at_call 91;refine (l21Allowed_c k.infos (Kx.reach k.mem r) l _ _ _ _ (RS.below I1.out hb23) Ho3.out (RS.below R1.out hb23) (fun f hf=>by rw [Hio.out];exact reach_lt f hf)).mono ?_;rintro e w4 ⟨rfl,hb4⟩;rw [Hal.out];have hb5:=hb23.trans (hb4.mono hb23.size);have hc5:=Hcl.out w4 hb5;go_wp2_with fail)
              refine hK.out _ _ ?_ (fun hHeld=>?_)
              · first | assumption | go_keep
              clear hK K;refine nH ?_;refine tH 36 ?_;refine tH 37 ?_;refine wpAnyH_done (by kernel_rfl) ?_ _;have Hb9:=hI_ (B01.out.trans (hb5.mono B01.out.size));clear S1;go_wp2_with fail;go_roundw
              case rel=>exact ⟨q+1,by go_num,by omega,HN2.out,Hb9.out⟩
              case measure=>simp [intOf];omega
          · obtain ⟨x0,rfl⟩:=Int.eq_ofNat_of_zero_le (Int.not_lt.1 hneg);have hx12:x0<k.infos.length:=by rw [Hio.out];have:=hr11.out;omega
            have hxI:(x0:Int)<(k.infos.length:Int):=by omega
            obtain ⟨bi,oi,cap',ev,hbi,h4,_,_⟩:=RInfo.at I1.out hx12;simp only [Value.slice.injEq] at ev;obtain ⟨rfl,_,rfl⟩:=ev;have Hbi:=hI_ hbi;have Hkd:=hI_ h4;rw [Int.toNat_natCast] at Hok;clear hbi h4 hneg hx12;generalize (Kx.inf k.infos x0).kind=kd at Hkd Hok
            by_cases hk3:kd=3
            · subst hk3
              cases hal:Kx.allowed k.infos (Kx.reach k.mem x0) l with
              | false =>
                have HF:=hI_ (HB.out (by rw [Hok.out,hal,Bool.and_false]));have Hrv:=hI_ hrv;have Hin:=hI_ hin;have Hal:=hI_ hal;clear hrv hin hal HB HN Hok;have Hcl:=hI_ (show ∀ wz,Below W1.heap.size W1 wz→(wz.cell? ⟨w.heap.size,0,none⟩=some (.slice am k.mem.length cm)∧wz.cell? ⟨w.heap.size,1,none⟩=some (.slice (some ⟨bi,oi,none⟩) k.infos.length ci)∧wz.cell? ⟨wr.heap.size,0,none⟩=some (.slice x l.length y)∧wz.cell? ⟨wr.heap.size,1,none⟩=some (.int .i64 (x0:Int))∧wz.cell? ⟨bi,oi+x0*3,none⟩=some (.int .i64 3)) from fun wz hz =>
                  ⟨(hz.cell (p:=⟨w.heap.size,0,none⟩) Hbx1.out.2.2.2.2).trans Hbx1.out.1,(hz.cell (p:=⟨w.heap.size,1,none⟩) Hbx1.out.2.2.2.2).trans Hbx1.out.2.1,(hz.cell (p:=⟨wr.heap.size,0,none⟩) Bx.out.2.2).trans Bx.out.1,(hz.cell (p:=⟨wr.heap.size,1,none⟩) Bx.out.2.2).trans Bx.out.2.1,(hz.cell (p:=⟨bi,oi+x0*3,none⟩) Hbi.out).trans Hkd.out⟩)
                have S1:=Hcl.out W1 bR_;go_wp2_with fail;refine wp_region_held_drew (S:=(fun wz=>wz.cell? ⟨w.heap.size,0,none⟩=some (.slice am k.mem.length cm)∧wz.cell? ⟨w.heap.size,1,none⟩=some (.slice (some ⟨bi,oi,none⟩) k.infos.length ci)∧wz.cell? ⟨wr.heap.size,0,none⟩=some (.slice x l.length y)∧wz.cell? ⟨wr.heap.size,1,none⟩=some (.int .i64 (x0:Int))∧wz.cell? ⟨bi,oi+x0*3,none⟩=some (.int .i64 3))) (by kernel_rfl) (by first | assumption | go_keep) (fun hHeld=>?_)
                refine tH 0 ?_;refine tH 1 ?_;refine rH 2 (fun K hK=>?_)
                (rw [if_pos (by rfl)];go_simp;go_at_call 89;refine (specRightsValid_c l _ W1.drew (show RStr W1.drew _ _ from R1.out) Hsz.out).mono ?_;rintro e w2 ⟨rfl,nn,hw2⟩;rw [Hrv.out];have hb2:Below W1.heap.size W1 w2:=(by rw [hw2];exact ⟨rfl,rfl,rfl,Nat.le_refl _,fun _ _=>rfl⟩);clear hw2;have hc2:=Hcl.out w2 hb2;go_wp2_with fail)
                refine hK.out _ _ ?_ (fun hHeld=>?_)
                · first | assumption | go_keep
                clear hK K;refine nH ?_;refine tH 3 ?_;refine tH 4 ?_;refine tH 5 ?_;refine tH 6 ?_;refine rH 7 (fun K hK=>?_)
                (rw [if_pos (by rfl)];go_simp;go_at_call 90;refine (l6InK_c _ _ _ _).mono ?_;rintro e w' ⟨rfl,rfl⟩;rw [Hin.out];go_wp2_with fail)
                refine hK.out _ _ ?_ (fun hHeld=>?_)
                · first | assumption | go_keep
                clear hK K;refine nH ?_;refine tH 8 ?_;refine tH 9 ?_;refine tH 10 ?_;refine tH 11 ?_;refine tH 12 ?_;refine tH 13 ?_;refine tH 14 ?_;refine tH 15 ?_;refine tH 16 ?_;refine tH 17 ?_;refine tH 18 ?_;refine tH 19 ?_;refine tH 20 ?_;refine tH 21 ?_;refine tH 22 ?_;refine tH 23 ?_;refine tH 24 ?_;refine tH 25 ?_;refine tH 26 ?_;refine tH 27 ?_;refine tH 28 ?_;refine tH 29 ?_;refine tH 30 ?_;refine tH 31 ?_;refine tH 33 ?_;refine tH 34 ?_;refine rH 32 (fun K hK=>?_)
                (rw [if_pos (by rfl)];go_simp;go_at_call 60;refine (l21Reach_c k.mem (x0:Int) _ _ (M1.out.below hb2) Hmo.out hr11.out).mono ?_;rintro e w3 ⟨u3,rfl,ho3,hb3⟩;have hb23:=hb2.trans (hb3.mono hb2.size);have hc3:=Hcl.out w3 hb23;have Ho3:=hI_ ho3.ri;clear ho3;go_wp2_with fail)
                refine hK.out _ _ ?_ (fun hHeld=>?_)
                · first | assumption | go_keep
                clear hK K;refine nH ?_;refine rH 35 (fun K hK=>?_)
                (rw [if_pos (by rfl)];go_simp;go_at_call 91;refine (l21Allowed_c k.infos (Kx.reach k.mem (x0:Int)) l _ _ _ _ (RS.below I1.out hb23) Ho3.out (RS.below R1.out hb23) (fun f hf=>by rw [Hio.out];exact reach_lt f hf)).mono ?_;rintro e w4 ⟨rfl,hb4⟩;rw [Hal.out];have hb5:=hb23.trans (hb4.mono hb23.size);have hc5:=Hcl.out w4 hb5;go_wp2_with fail)
                refine hK.out _ _ ?_ (fun hHeld=>?_)
                · first | assumption | go_keep
                clear hK K;refine nH ?_;refine tH 36 ?_;refine tH 37 ?_;refine wpAnyH_done (by kernel_rfl) ?_ _;have Hb9:=hI_ (B01.out.trans (hb5.mono B01.out.size));clear S1;go_wp2_with fail;go_ret;exact ⟨ret_bool HF.out.symm,Hw0.out.trans (Hb9.out.mono Hw0.out.size)⟩
              | true =>
                have HN2:=hI_ (HN.out (by rw [Hok.out,hrv,hin,hal];simp));have Hrv:=hI_ hrv;have Hin:=hI_ hin;have Hal:=hI_ hal;clear hrv hin hal HB HN Hok;have Hcl:=hI_ (show ∀ wz,Below W1.heap.size W1 wz→(wz.cell? ⟨w.heap.size,0,none⟩=some (.slice am k.mem.length cm)∧wz.cell? ⟨w.heap.size,1,none⟩=some (.slice (some ⟨bi,oi,none⟩) k.infos.length ci)∧wz.cell? ⟨wr.heap.size,0,none⟩=some (.slice x l.length y)∧wz.cell? ⟨wr.heap.size,1,none⟩=some (.int .i64 (x0:Int))∧wz.cell? ⟨bi,oi+x0*3,none⟩=some (.int .i64 3)) from fun wz hz =>
                  ⟨(hz.cell (p:=⟨w.heap.size,0,none⟩) Hbx1.out.2.2.2.2).trans Hbx1.out.1,(hz.cell (p:=⟨w.heap.size,1,none⟩) Hbx1.out.2.2.2.2).trans Hbx1.out.2.1,(hz.cell (p:=⟨wr.heap.size,0,none⟩) Bx.out.2.2).trans Bx.out.1,(hz.cell (p:=⟨wr.heap.size,1,none⟩) Bx.out.2.2).trans Bx.out.2.1,(hz.cell (p:=⟨bi,oi+x0*3,none⟩) Hbi.out).trans Hkd.out⟩)
                have S1:=Hcl.out W1 bR_;go_wp2_with fail;refine wp_region_held_drew (S:=(fun wz=>wz.cell? ⟨w.heap.size,0,none⟩=some (.slice am k.mem.length cm)∧wz.cell? ⟨w.heap.size,1,none⟩=some (.slice (some ⟨bi,oi,none⟩) k.infos.length ci)∧wz.cell? ⟨wr.heap.size,0,none⟩=some (.slice x l.length y)∧wz.cell? ⟨wr.heap.size,1,none⟩=some (.int .i64 (x0:Int))∧wz.cell? ⟨bi,oi+x0*3,none⟩=some (.int .i64 3))) (by kernel_rfl) (by first | assumption | go_keep) (fun hHeld=>?_)
                refine tH 0 ?_;refine tH 1 ?_;refine rH 2 (fun K hK=>?_)
                (rw [if_pos (by rfl)];go_simp;go_at_call 89;refine (specRightsValid_c l _ W1.drew (show RStr W1.drew _ _ from R1.out) Hsz.out).mono ?_;rintro e w2 ⟨rfl,nn,hw2⟩;rw [Hrv.out];have hb2:Below W1.heap.size W1 w2:=(by rw [hw2];exact ⟨rfl,rfl,rfl,Nat.le_refl _,fun _ _=>rfl⟩);clear hw2;have hc2:=Hcl.out w2 hb2;go_wp2_with fail)
                refine hK.out _ _ ?_ (fun hHeld=>?_)
                · first | assumption | go_keep
                clear hK K;refine nH ?_;refine tH 3 ?_;refine tH 4 ?_;refine tH 5 ?_;refine tH 6 ?_;refine rH 7 (fun K hK=>?_)
                (rw [if_pos (by rfl)];go_simp;go_at_call 90;refine (l6InK_c _ _ _ _).mono ?_;rintro e w' ⟨rfl,rfl⟩;rw [Hin.out];go_wp2_with fail)
                refine hK.out _ _ ?_ (fun hHeld=>?_)
                · first | assumption | go_keep
                clear hK K;refine nH ?_;refine tH 8 ?_;refine tH 9 ?_;refine tH 10 ?_;refine tH 11 ?_;refine tH 12 ?_;refine tH 13 ?_;refine tH 14 ?_;refine tH 15 ?_;refine tH 16 ?_;refine tH 17 ?_;refine tH 18 ?_;refine tH 19 ?_;refine tH 20 ?_;refine tH 21 ?_;refine tH 22 ?_;refine tH 23 ?_;refine tH 24 ?_;refine tH 25 ?_;refine tH 26 ?_;refine tH 27 ?_;refine tH 28 ?_;refine tH 29 ?_;refine tH 30 ?_;refine tH 31 ?_;refine tH 33 ?_;refine tH 34 ?_;refine rH 32 (fun K hK=>?_)
                (rw [if_pos (by rfl)];go_simp;go_at_call 60;refine (l21Reach_c k.mem (x0:Int) _ _ (M1.out.below hb2) Hmo.out hr11.out).mono ?_;rintro e w3 ⟨u3,rfl,ho3,hb3⟩;have hb23:=hb2.trans (hb3.mono hb2.size);have hc3:=Hcl.out w3 hb23;have Ho3:=hI_ ho3.ri;clear ho3;go_wp2_with fail)
                refine hK.out _ _ ?_ (fun hHeld=>?_)
                · first | assumption | go_keep
                clear hK K;refine nH ?_;refine rH 35 (fun K hK=>?_)
                (rw [if_pos (by rfl)];go_simp;go_at_call 91;refine (l21Allowed_c k.infos (Kx.reach k.mem (x0:Int)) l _ _ _ _ (RS.below I1.out hb23) Ho3.out (RS.below R1.out hb23) (fun f hf=>by rw [Hio.out];exact reach_lt f hf)).mono ?_;rintro e w4 ⟨rfl,hb4⟩;rw [Hal.out];have hb5:=hb23.trans (hb4.mono hb23.size);have hc5:=Hcl.out w4 hb5;go_wp2_with fail)
                refine hK.out _ _ ?_ (fun hHeld=>?_)
                · first | assumption | go_keep
                clear hK K;refine nH ?_;refine tH 36 ?_;refine tH 37 ?_;refine wpAnyH_done (by kernel_rfl) ?_ _;have Hb9:=hI_ (B01.out.trans (hb5.mono B01.out.size));clear S1;go_wp2_with fail;go_roundw
                case rel=>exact ⟨q+1,by go_num,by omega,HN2.out,Hb9.out⟩
                case measure=>simp [intOf];omega
            · have hkb:(kd != 3)=true:=by simpa using hk3
              have HF:=hI_ (HB.out (by rw [Hok.out,show (kd==3)=false from by simpa using hk3,show decide ((x0:Int)<0)=false from by simp];simp));have Hrv:=hI_ hrv;have Hin:=hI_ hin;clear hrv hin HB HN Hok hk3;have Hcl:=hI_ (show ∀ wz,Below W1.heap.size W1 wz→(wz.cell? ⟨w.heap.size,0,none⟩=some (.slice am k.mem.length cm)∧wz.cell? ⟨w.heap.size,1,none⟩=some (.slice (some ⟨bi,oi,none⟩) k.infos.length ci)∧wz.cell? ⟨wr.heap.size,0,none⟩=some (.slice x l.length y)∧wz.cell? ⟨wr.heap.size,1,none⟩=some (.int .i64 (x0:Int))∧wz.cell? ⟨bi,oi+x0*3,none⟩=some (.int .i64 kd)) from fun wz hz =>
                ⟨(hz.cell (p:=⟨w.heap.size,0,none⟩) Hbx1.out.2.2.2.2).trans Hbx1.out.1,(hz.cell (p:=⟨w.heap.size,1,none⟩) Hbx1.out.2.2.2.2).trans Hbx1.out.2.1,(hz.cell (p:=⟨wr.heap.size,0,none⟩) Bx.out.2.2).trans Bx.out.1,(hz.cell (p:=⟨wr.heap.size,1,none⟩) Bx.out.2.2).trans Bx.out.2.1,(hz.cell (p:=⟨bi,oi+x0*3,none⟩) Hbi.out).trans Hkd.out⟩)
              have S1:=Hcl.out W1 bR_;go_wp2_with fail;refine wp_region_held_drew (S:=(fun wz=>wz.cell? ⟨w.heap.size,0,none⟩=some (.slice am k.mem.length cm)∧wz.cell? ⟨w.heap.size,1,none⟩=some (.slice (some ⟨bi,oi,none⟩) k.infos.length ci)∧wz.cell? ⟨wr.heap.size,0,none⟩=some (.slice x l.length y)∧wz.cell? ⟨wr.heap.size,1,none⟩=some (.int .i64 (x0:Int))∧wz.cell? ⟨bi,oi+x0*3,none⟩=some (.int .i64 kd))) (by kernel_rfl) (by first | assumption | go_keep) (fun hHeld=>?_)
              refine tH 0 ?_;refine tH 1 ?_;refine rH 2 (fun K hK=>?_)
              (rw [if_pos (by rfl)];go_simp;go_at_call 89;refine (specRightsValid_c l _ W1.drew (show RStr W1.drew _ _ from R1.out) Hsz.out).mono ?_;rintro e w2 ⟨rfl,nn,hw2⟩;rw [Hrv.out];have hb2:Below W1.heap.size W1 w2:=(by rw [hw2];exact ⟨rfl,rfl,rfl,Nat.le_refl _,fun _ _=>rfl⟩);clear hw2;have hc2:=Hcl.out w2 hb2;go_wp2_with fail)
              refine hK.out _ _ ?_ (fun hHeld=>?_)
              · first | assumption | go_keep
              clear hK K;refine nH ?_;refine tH 3 ?_;refine tH 4 ?_;refine tH 5 ?_;refine tH 6 ?_;refine rH 7 (fun K hK=>?_)
              (rw [if_pos (by rfl)];go_simp;go_at_call 90;refine (l6InK_c _ _ _ _).mono ?_;rintro e w' ⟨rfl,rfl⟩;rw [Hin.out];go_wp2_with fail)
              refine hK.out _ _ ?_ (fun hHeld=>?_)
              · first | assumption | go_keep
              clear hK K;refine nH ?_;refine tH 8 ?_;refine tH 9 ?_;refine tH 10 ?_;refine tH 11 ?_;refine tH 12 ?_;refine tH 13 ?_;refine tH 14 ?_;refine tH 15 ?_;refine tH 16 ?_;refine tH 17 ?_;refine tH 18 ?_;refine tH 19 ?_;refine tH 20 ?_;refine tH 21 ?_;refine tH 22 ?_;refine tH 23 ?_;refine tH 24 ?_;refine tH 25 ?_;refine sH 26 ?_;refine sH 27 ?_;refine sH 28 ?_;refine sH 29 ?_;refine sH 30 ?_;refine sH 31 ?_;refine sH 32 ?_;refine sH 33 ?_;refine sH 34 ?_;refine sH 35 ?_;refine sH 36 ?_;refine tH 37 ?_;refine wpAnyH_done (by kernel_rfl) ?_ _;have Hb9:=hI_ (B01.out.trans (hb2.mono B01.out.size));clear S1;go_wp2_with fail;go_ret;exact ⟨ret_bool HF.out.symm,Hw0.out.trans (Hb9.out.mono Hw0.out.size)⟩
    · have HF:=hI_ (show Kx.envsOk k=(k.envs.length==3) by
        unfold Kx.envsOk;rw [eOk_all,show (List.range k.envs.length).all (eOk k)=true from by
          rw [List.all_eq_true]; exact fun j hj => hall.out j (by have : j < k.envs.length := by simpa using hj
                                                                  omega),Bool.true_and])
      obtain ⟨k0,k1,k2,k3,hbl⟩:=Hbx.out.below hb.out;go_wp2_with fail;go_ret;exact ⟨ret_bool (by rw [HF.out];exact Bool.eq_iff_iff.2 (by simp;omega)),Hw0.out.trans (hb.out.mono Hw0.out.size)⟩
end Go.Proofs.YtenebmeaoidnoaaGreatDoor
