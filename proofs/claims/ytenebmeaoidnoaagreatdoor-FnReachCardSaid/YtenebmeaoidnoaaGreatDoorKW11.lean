/- Contracts: the cache, in the reference. -/
import Derived.Test.YtenebmeaoidnoaaGreatDoorKV
import Derived.Test.YtenebmeaoidnoaaGreatDoorKR
import Derived.Test.YtenebmeaoidnoaaGreatDoorKY
namespace Go.Proofs.YtenebmeaoidnoaaGreatDoor
open Go.RowKit
/-- the place of a translation, or -1 -/
def cfI (c:List Kx.Cached) (e p:Int):Int:=match Kx.cfind c e p with | some i=>(i:Int) | none=>-1
theorem cfI_hit {c:List Kx.Cached} {e p:Int} {k:Nat} (hk:k<c.length) (h:(c.getD k Kx.Cached.zero).env=e∧(c.getD k Kx.Cached.zero).page=p)
    (hn:∀ j,j<k→¬ ((c.getD j Kx.Cached.zero).env=e∧(c.getD j Kx.Cached.zero).page=p)):Kx.cfind c e p=some k:=by
  unfold Kx.cfind;rw [List.findIdx?_eq_some_iff_getElem];have hg:∀ j (hj:j<c.length),c[j]=c.getD j Kx.Cached.zero:=fun j hj=>by simp [hj]
  refine ⟨hk,by rw [hg k hk];simpa using h,fun j hj=>?_⟩
  rw [hg j (by omega)];have:=hn j hj;simpa using this
theorem cfI_none {c:List Kx.Cached} {e p:Int} (hn:∀ j,j<c.length→¬ ((c.getD j Kx.Cached.zero).env=e∧(c.getD j Kx.Cached.zero).page=p)):Kx.cfind c e p=none:=by
  unfold Kx.cfind;rw [List.findIdx?_eq_none_iff];intro x hx;obtain ⟨j,hj,rfl⟩:=List.getElem_of_mem hx;have hg:c[j]=c.getD j Kx.Cached.zero:=by simp [hj]
  rw [hg];simpa using hn j hj
theorem cfind_self {c:List Kx.Cached} {k:Nat} (hk:k<c.length):∃ j,j≤k∧Kx.cfind c (c.getD k Kx.Cached.zero).env (c.getD k Kx.Cached.zero).page=some j:=by
  cases hf:Kx.cfind c (c.getD k Kx.Cached.zero).env (c.getD k Kx.Cached.zero).page with
  | none =>
    exfalso
    unfold Kx.cfind at hf;rw [List.findIdx?_eq_none_iff] at hf;have hg:c[k]=c.getD k Kx.Cached.zero:=by simp [hk]
    have:=hf c[k] (List.getElem_mem hk)
    rw [hg] at this;simp at this
  | some j =>
    refine ⟨j,?_,rfl⟩;unfold Kx.cfind at hf;obtain ⟨hj,_,hlt⟩:=List.findIdx?_eq_some_iff_getElem.1 hf;refine Nat.not_lt.1 fun h=>?_
    have hg:c[k]=c.getD k Kx.Cached.zero:=by simp [hk]
    have:=hlt k h
    rw [hg] at this;simp at this
set_option maxHeartbeats 1000000 in
theorem l4Find_c (c:List Kx.Cached) (e p:Int) (v:Value) (w:World) (h:RCached w v c):Calls Tryz.prog 88 #[v,.int .i64 e,.int .i64 p] w fun en w'=>en=.returned (.int .i64 (cfI c e p))∧w=w':=by
  obtain ⟨a,cap,rfl,_,_⟩:=RS.val h;have hl:=h.1;have H:=hI_ h;clear h;go_enter Tryz.func88,Tryz.ntmps88;go_wp2_with fail;go_loop [7] (fun i=>∃ k:Nat,i=.int .i64 k∧k≤c.length∧Hid (∀ j,j<k→¬ ((c.getD j Kx.Cached.zero).env=e∧(c.getD j Kx.Cached.zero).page=p))) (fun i=>c.length - (intOf i).toNat)
  case atStart=>exact ⟨0,rfl,Nat.zero_le _,fun j hj=>absurd hj (Nat.not_lt_zero _)⟩
  case round =>
    obtain ⟨k,rfl,hk,hall⟩:=hrel
    by_cases hlt:k<c.length
    · obtain ⟨b,off,cap',ev,_,h1,h2,h3,h4⟩:=RCached.at H.out hlt;simp only [Value.slice.injEq] at ev;obtain ⟨rfl,_,rfl⟩:=ev;have Hit:=hI_ (show (c.getD k Kx.Cached.zero).env=e∧(c.getD k Kx.Cached.zero).page=p→cfI c e p=k from fun h=>by unfold cfI;rw [cfI_hit hlt h hall.out])
      have Mis:=hI_ (show ¬ ((c.getD k Kx.Cached.zero).env=e∧(c.getD k Kx.Cached.zero).page=p)→∀ j,j<k+1→¬ ((c.getD j Kx.Cached.zero).env=e∧(c.getD j Kx.Cached.zero).page=p) from fun h j hj=>by
        by_cases ej:j=k
        · subst ej;exact h
        · exact hall.out j (by omega))
      generalize c.getD k Kx.Cached.zero=x at h1 h2 h3 h4 Hit Mis
      by_cases he:x.env=e
      · by_cases hp:x.page=p
        · have HF:=hI_ (Hit.out ⟨he,hp⟩);have heb:(x.env==e)=true:=by simpa using he
          have hpb:(x.page==p)=true:=by simpa using hp
          clear he hp Hit Mis;go_wp2_with fail;go_ret;exact ⟨ret_int HF.out.symm,rfl⟩
        · have HM:=hI_ (Mis.out fun h=>hp h.2);have heb:(x.env==e)=true:=by simpa using he
          have hpb:(x.page==p)=false:=by simpa using hp
          clear he hp Hit Mis;go_wp2_with fail;go_round
          case rel=>exact ⟨k+1,by go_num,by omega,HM.out⟩
          case measure=>simp [intOf];omega
      · have HM:=hI_ (Mis.out fun h=>he h.1);have heb:(x.env==e)=false:=by simpa using he
        clear he Hit Mis;go_wp2_with fail;go_round
        case rel=>exact ⟨k+1,by go_num,by omega,HM.out⟩
        case measure=>simp [intOf];omega
    · have HF:=hI_ (show cfI c e p=-1 by unfold cfI;rw [cfI_none fun j hj=>hall.out j (by omega)])
      go_wp2_with fail;go_ret;exact ⟨ret_int HF.out.symm,rfl⟩
theorem Below.undrew {w w':World} (h:Below w.drew.heap.size w.drew w'):Below w.heap.size w w':=⟨h.os,h.tape,h.output,h.size,h.block⟩
set_option maxHeartbeats 1000000 in
theorem l4Cached_c (x:Kx.Cached) (w:World):Calls Tryz.prog 87 #[cachedV x] w fun e w'=>e=.returned (.bool (Kx.cachedOk x))∧Below w.heap.size w w':=by
  have hb:=hI_ (show Below w.heap.size w (w.alloc (.cells #[.int .i64 x.env,.int .i64 x.page,.int .i64 x.frame,.bool x.write] 33)) from bR_.alloc nR_ _);have hv:=hI_ (show Kx.cachedOk x=(Kx.inR x.env 0 2&&Kx.inR x.page 0 15&&Kx.inR x.frame 0 11) from rfl);unfold cachedV;go_enter Tryz.func87,Tryz.ntmps87;go_wp2_with fail;refine (l4Env_c _ _).mono ?_;rintro e w' ⟨rfl,rfl⟩
  cases h1:Kx.inR x.env 0 2
  · rw [h1] at hv;clear h1;go_wp2_with fail;go_ret;exact ⟨ret_bool (by rw [hv.out];rfl),hb.out⟩
  · rw [h1] at hv;clear h1;go_wp2_with fail;refine (l6InK_c _ _ _ _).mono ?_;rintro e w' ⟨rfl,rfl⟩
    cases h1:Kx.inR x.page 0 15
    · rw [h1] at hv;clear h1;go_wp2_with fail;go_ret;exact ⟨ret_bool (by rw [hv.out];rfl),hb.out⟩
    · rw [h1] at hv;clear h1;go_wp2_with fail;refine (l1Frame_c _ _).mono ?_;rintro e w' ⟨rfl,rfl⟩;go_wp2_with fail;go_ret;exact ⟨ret_bool (by rw [hv.out];rfl),hb.out⟩
/-- the i-th translation is valid and the first one of its page -/
def cOk (c:List Kx.Cached) (i:Nat):Bool:=Kx.cachedOk (c.getD i Kx.Cached.zero)&&!(match Kx.cfind c (c.getD i Kx.Cached.zero).env (c.getD i Kx.Cached.zero).page with | some j=>decide (j<i) | none=>false)
theorem cacheOk_all (c:List Kx.Cached):Kx.cacheOk c=((List.range c.length).all (cOk c)&&decide (c.length≤4)):=rfl
set_option maxHeartbeats 4000000 in
theorem specCacheValid_c (c:List Kx.Cached) (v:Value) (w:World) (h:RCached w v c):Calls Tryz.prog 46 #[v] w fun en w'=>en=.returned (.bool (Kx.cacheOk c))∧Below w.heap.size w w':=by
  obtain ⟨a,cap,rfl,_,_⟩:=RS.val h;have hl:=h.1;have H:=hI_ h;clear h;go_enter Tryz.func46,Tryz.ntmps46;go_wp2_with fail;go_loopw [3] (fun i wr=>∃ k:Nat,i=.int .i64 k∧k≤c.length∧Hid (∀ j,j<k→cOk c j=true)∧Hid (Below w.heap.size w wr)) (fun i _=>c.length - (intOf i).toNat)
  case atStart=>exact ⟨0,rfl,Nat.zero_le _,fun j hj=>absurd hj (Nat.not_lt_zero _),Below.refl _ _⟩
  case round =>
    obtain ⟨k,rfl,hk,hall,hb⟩:=hrel
    by_cases hlt:k<c.length
    · obtain ⟨b,off,cap',ev,hbb,h1,h2,h3,h4⟩:=RCached.at (RS.below H.out hb.out) hlt;simp only [Value.slice.injEq] at ev;obtain ⟨rfl,_,rfl⟩:=ev;have hlI:(k:Int)<(c.length:Int):=by omega
      have Hcl:=hI_ (show ∀ wz,Below wr.heap.size wr wz→(wz.cell? ⟨b,off+k*4,none⟩=some (.int .i64 (c.getD k Kx.Cached.zero).env)∧wz.cell? ⟨b,off+k*4+1,none⟩=some (.int .i64 (c.getD k Kx.Cached.zero).page) ∧
          wz.cell? ⟨b,off+k*4+2,none⟩=some (.int .i64 (c.getD k Kx.Cached.zero).frame)∧wz.cell? ⟨b,off+k*4+3,none⟩=some (.bool (c.getD k Kx.Cached.zero).write)) from fun wz hz =>
        ⟨(hz.cell (p:=⟨b,off+k*4,none⟩) hbb).trans h1,(hz.cell (p:=⟨b,off+k*4+1,none⟩) hbb).trans h2,(hz.cell (p:=⟨b,off+k*4+2,none⟩) hbb).trans h3,(hz.cell (p:=⟨b,off+k*4+3,none⟩) hbb).trans h4⟩)
      have Hc:=hI_ (RS.below H.out hb.out);have HB:=hI_ (show cOk c k=false→Kx.cacheOk c=false from fun h=>by
        rw [cacheOk_all,Bool.and_eq_false_iff,List.all_eq_false];exact .inl ⟨k,by simpa using hlt,by rw [h];simp⟩)
      have HN:=hI_ (show cOk c k=true→∀ j,j<k+1→cOk c j=true from fun h=>scan_step hall.out h);obtain ⟨q,hqk,hq⟩:=cfind_self hlt;have Hq:=hI_ (show cfI c (c.getD k Kx.Cached.zero).env (c.getD k Kx.Cached.zero).page=(q:Int) by unfold cfI;rw [hq]);have Hok:=hI_ (show cOk c k=(Kx.cachedOk (c.getD k Kx.Cached.zero)&&!decide (q<k)) by unfold cOk;rw [hq]);clear hq hbb;generalize c.getD k Kx.Cached.zero=x at h1 h2 h3 h4 Hcl Hq Hok
      cases hx:Kx.cachedOk x with
      | false =>
        have HF:=hI_ (HB.out (by rw [Hok.out,hx];rfl));have Hx:=hI_ hx;clear hx HB HN Hok Hq;go_wp2_with fail;refine wp_region_held_drew (S:=(fun wz=>wz.cell? ⟨b,off+k*4,none⟩=some (.int .i64 x.env)∧wz.cell? ⟨b,off+k*4+1,none⟩=some (.int .i64 x.page)∧wz.cell? ⟨b,off+k*4+2,none⟩=some (.int .i64 x.frame)∧wz.cell? ⟨b,off+k*4+3,none⟩=some (.bool x.write))) (by kernel_rfl) (by first | assumption | go_keep) (fun hHeld=>?_)
        refine tH 0 ?_;refine tH 1 ?_;refine tH 2 ?_;refine tH 3 ?_;refine rH 4 (fun K hK=>?_)
        (rw [if_pos (by rfl)];go_simp;go_at_call 87;refine (l4Cached_c x _).mono ?_;rintro e w2 ⟨rfl,hb2⟩;rw [Hx.out];have hb3:=Below.undrew hb2;have hc3:=Hcl.out w2 hb3;go_wp2_with fail)
        refine hK.out _ _ ?_ (fun hHeld=>?_)
        · first | assumption | go_keep
        clear hK K;refine nH ?_;refine tH 5 ?_;refine tH 6 ?_;refine sH 7 ?_;refine sH 8 ?_;refine sH 9 ?_;refine sH 10 ?_;refine sH 11 ?_;refine sH 12 ?_;refine sH 13 ?_;refine sH 14 ?_;refine sH 15 ?_;refine sH 16 ?_;refine sH 17 ?_;refine sH 18 ?_;refine sH 19 ?_;refine sH 20 ?_;refine tH 21 ?_;refine wpAnyH_done (by kernel_rfl) ?_ _;have Hb3:=hI_ (hb.out.trans (hb3.mono hb.out.size));clear hb2 hb3;go_wp2_with fail;go_ret;exact ⟨ret_bool HF.out.symm,Hb3.out⟩
      | true =>
        by_cases hqk2:q<k
        · have HF:=hI_ (HB.out (by rw [Hok.out,hx];simp [hqk2]));have Hx:=hI_ hx;clear hx HB HN Hok;go_wp2_with fail;go_region_held3 (fun wz=>wz.cell? ⟨b,off+k*4,none⟩=some (.int .i64 x.env)∧wz.cell? ⟨b,off+k*4+1,none⟩=some (.int .i64 x.page)∧wz.cell? ⟨b,off+k*4+2,none⟩=some (.int .i64 x.frame)∧wz.cell? ⟨b,off+k*4+3,none⟩=some (.bool x.write))
            (first | assumption | go_keep)
            (first
              | (go_at_call 87;refine (l4Cached_c x _).mono ?_;rintro e w2 ⟨rfl,hb2⟩;rw [Hx.out];have hb3:=Below.undrew hb2;have hc3:=Hcl.out w2 hb3)
              | (go_at_call 88;refine (l4Find_c c _ _ _ _ (RS.below Hc.out hb3)).mono ?_;rintro e w' ⟨rfl,rfl⟩;rw [Hq.out]))
          have Hb3:=hI_ (hb.out.trans (hb3.mono hb.out.size));clear hb2 hb3 hc3;go_wp2_with fail;go_ret;exact ⟨ret_bool HF.out.symm,Hb3.out⟩
        · have HN2:=hI_ (HN.out (by rw [Hok.out,hx];simp [hqk2]));have Hx:=hI_ hx;clear hx HB HN Hok;go_wp2_with fail;go_region_held3 (fun wz=>wz.cell? ⟨b,off+k*4,none⟩=some (.int .i64 x.env)∧wz.cell? ⟨b,off+k*4+1,none⟩=some (.int .i64 x.page)∧wz.cell? ⟨b,off+k*4+2,none⟩=some (.int .i64 x.frame)∧wz.cell? ⟨b,off+k*4+3,none⟩=some (.bool x.write))
            (first | assumption | go_keep)
            (first
              | (go_at_call 87;refine (l4Cached_c x _).mono ?_;rintro e w2 ⟨rfl,hb2⟩;rw [Hx.out];have hb3:=Below.undrew hb2;have hc3:=Hcl.out w2 hb3)
              | (go_at_call 88;refine (l4Find_c c _ _ _ _ (RS.below Hc.out hb3)).mono ?_;rintro e w' ⟨rfl,rfl⟩;rw [Hq.out]))
          have Hb3:=hI_ (hb.out.trans (hb3.mono hb.out.size));clear hb2 hb3 hc3;go_wp2_with fail;go_roundw
          case rel=>exact ⟨k+1,by go_num,by omega,HN2.out,Hb3.out⟩
          case measure=>simp [intOf];omega
    · have HF:=hI_ (show Kx.cacheOk c=decide (c.length≤4) by
        rw [cacheOk_all,show (List.range c.length).all (cOk c)=true from by
          rw [List.all_eq_true]; exact fun j hj => hall.out j (by have : j < c.length := by simpa using hj
                                                                  omega),Bool.true_and])
      go_wp2_with fail;go_ret;exact ⟨ret_bool (by rw [HF.out];exact Bool.eq_iff_iff.2 (by simp;omega)),hb.out⟩
end Go.Proofs.YtenebmeaoidnoaaGreatDoor
