/- Contracts: the cache, in the reference. -/
import Derived.Test.YthcmmoibpgcgaaaGreatDoorKV
import Derived.Test.YthcmmoibpgcgaaaGreatDoorKR
set_option maxHeartbeats 4000000
set_option linter.all false
open Go.Proofs.Tryz
namespace Go.Proofs.YthcmmoibpgcgaaaGreatDoor
open Go.RowKit Kx
variable {c:List Kx.Cached}
def xM (c:List Kx.Cached) (e p:Int):Int:=match iW c e p with | some i=>(i:Int) | none=>-1
theorem BB {e p:Int} {k:Nat} (hk:k<c.length) (h:(c.getD k Kx.Cached.zero).env=e/\(c.getD k Kx.Cached.zero).page=p)
  (hn:∀ j,j<k->¬ ((c.getD j Kx.Cached.zero).env=e/\(c.getD j Kx.Cached.zero).page=p)):iW c e p=some k:=by
 unfold iW;rw [List.findIdx?_eq_some_iff_getElem];have hg:∀ j (hj:j<c.length),c[j]=c.getD j Kx.Cached.zero:=fun j hj=>by simp [hj]
 refine ⟨hk,by rw [hg k hk];simpa using h,fun j hj=>?_⟩
 rw [hg j (by omega)];have:=hn j hj;simpa using this
theorem yh {e p:Int} (hn:∀ j,j<c.length->¬ ((c.getD j Kx.Cached.zero).env=e/\(c.getD j Kx.Cached.zero).page=p)):iW c e p=none:=by
 unfold iW;rw [List.findIdx?_eq_none_iff];intro x hx;obtain ⟨j,hj,rfl⟩:=List.getElem_of_mem hx;have hg:c[j]=c.getD j Kx.Cached.zero:=by simp [hj]
 rw [hg];simpa using hn j hj
theorem yj {k:Nat} (hk:k<c.length):∃ j,j<=k/\iW c (c.getD k Kx.Cached.zero).env (c.getD k Kx.Cached.zero).page=some j:=by
 cases hf:iW c (c.getD k Kx.Cached.zero).env (c.getD k Kx.Cached.zero).page with
 | none =>
  exfalso
  unfold iW at hf;rw [List.findIdx?_eq_none_iff] at hf;have hg:c[k]=c.getD k Kx.Cached.zero:=by simp [hk]
  have:=hf c[k] (List.getElem_mem hk)
  rw [hg] at this;simp at this
 | some j =>
  refine ⟨j,?_,rfl⟩;unfold iW at hf;obtain ⟨hj,_,hlt⟩:=List.findIdx?_eq_some_iff_getElem.1 hf;refine Nat.not_lt.1 fun h=>?_
  have hg:c[k]=c.getD k Kx.Cached.zero:=by simp [hk]
  have:=hlt k h
  rw [hg] at this;simp at this
theorem yt (c:List Kx.Cached) (e p:Int) (v:Value) (w:World) (h:dZ w v c):Calls prog 172 #[v,I_ e,I_ p] w fun en w'=>en=.returned (I_ (xM c e p))/\w=w':=by
 obtain ⟨a,cap,rfl,_,_⟩:=RS.val h;have hl:=h.1;have H:=af h;clear h;go_enter func172,ntmps172;go_wp2_with fail;go_loop [7] (fun i=>∃ k:Nat,i=I_ k/\k<=c.length/\TI (∀ j,j<k->¬ ((c.getD j Kx.Cached.zero).env=e/\(c.getD j Kx.Cached.zero).page=p))) (fun i=>c.length - (intOf i).toNat)
 case atStart=>exact ⟨0,rfl,Nat.zero_le _,fun j hj=>absurd hj (Nat.not_lt_zero _)⟩
 case round =>
  obtain ⟨k,rfl,hk,hall⟩:=hrel
  by_cases hlt:k<c.length
  ·obtain ⟨b,off,cap',ev,_,h1,h2,h3,h4⟩:=dZ.at H.o hlt;obtain ⟨rfl,_,rfl⟩:=Za ev;clear ev;have BC:=af (show (c.getD k Kx.Cached.zero).env=e/\(c.getD k Kx.Cached.zero).page=p->xM c e p=k from fun h=>by unfold xM;rw [BB hlt h hall.o])
   have ET:=af (show ¬ ((c.getD k Kx.Cached.zero).env=e/\(c.getD k Kx.Cached.zero).page=p)->∀ j,j<k+1->¬ ((c.getD j Kx.Cached.zero).env=e/\(c.getD j Kx.Cached.zero).page=p) from fun h j hj=>by
    by_cases ej:j=k
    ·subst ej;exact h
    exact hall.o j (by omega))
   generalize c.getD k Kx.Cached.zero=x at h1 h2 h3 h4 BC ET
   by_cases he:x.env=e
   ·by_cases hp:x.page=p
    ·have HF:=af (BC.o ⟨he,hp⟩);have heb:(x.env==e)=true:=by simpa using he
     have hpb:(x.page==p)=true:=by simpa using hp
     clear he hp BC ET;go_wp2_with fail;go_ret;exact ⟨aZ HF.o.symm,rfl⟩
    have HM:=af (ET.o fun h=>hp h.2);have heb:(x.env==e)=true:=by simpa using he
    have hpb:(x.page==p)=false:=by simpa using hp
    clear he hp BC ET;go_wp2_with fail;go_round
    case rel=>exact ⟨k+1,by go_num,by omega,HM.o⟩
    case measure=>simp [intOf];omega
   have HM:=af (ET.o fun h=>he h.1);have heb:(x.env==e)=false:=by simpa using he
   clear he BC ET;go_wp2_with fail;go_round
   case rel=>exact ⟨k+1,by go_num,by omega,HM.o⟩
   case measure=>simp [intOf];omega
  have HF:=af (show xM c e p=-1 by unfold xM;rw [yh fun j hj=>hall.o j (by omega)])
  go_wp2_with fail;go_ret;exact ⟨aZ HF.o.symm,rfl⟩
theorem Below.gG {w w':World} (h:Below w.drew.heap.size w.drew w'):Below w.heap.size w w':=⟨h.os,h.tape,h.output,h.size,h.block⟩
theorem pq (x:Kx.Cached) (w:World):Calls prog 171 #[iT x] w fun e w'=>e=.returned (.bool (dn x))/\Below w.heap.size w w':=by
 have hb:=af (show Below w.heap.size w (w.alloc (.cells #[I_ x.env,I_ x.page,I_ x.frame,.bool x.write] 103)) from fZ.alloc aW _);have hv:=af (show dn x=(Kx.bK x.env 0 2&&Kx.bK x.page 0 15&&Kx.bK x.frame 0 11) from rfl);unfold iT;go_enter func171,ntmps171;go_wp2_with fail;refine (qZ _ _).mono ?_;rintro e w' ⟨rfl,rfl⟩
 cases h1:Kx.bK x.env 0 2
 ·rw [h1] at hv;clear h1;go_wp2_with fail;go_ret;exact ⟨ak (by rw [hv.o];rfl),hb.o⟩
 rw [h1] at hv;clear h1;go_wp2_with fail;refine (dJ _ _ _ _).mono ?_;rintro e w' ⟨rfl,rfl⟩
 cases h1:Kx.bK x.page 0 15
 ·rw [h1] at hv;clear h1;go_wp2_with fail;go_ret;exact ⟨ak (by rw [hv.o];rfl),hb.o⟩
 rw [h1] at hv;clear h1;go_wp2_with fail;refine (dI _ _).mono ?_;rintro e w' ⟨rfl,rfl⟩;go_wp2_with fail;go_ret;exact ⟨ak (by rw [hv.o];rfl),hb.o⟩
def E5 (c:List Kx.Cached) (i:Nat):Bool:=dn (c.getD i Kx.Cached.zero)&&!(match iW c (c.getD i Kx.Cached.zero).env (c.getD i Kx.Cached.zero).page with | some j=>decide (j<i) | none=>false)
theorem ku (c:List Kx.Cached):dA c=((List.range c.length).all (E5 c)&&decide (c.length<=4)):=rfl
theorem oh (c:List Kx.Cached) (v:Value) (w:World) (h:dZ w v c):Calls prog 94 #[v] w fun en w'=>en=.returned (.bool (dA c))/\Below w.heap.size w w':=by
 obtain ⟨a,cap,rfl,_,_⟩:=RS.val h;have hl:=h.1;have H:=af h;clear h;go_enter func94,ntmps94;go_wp2_with fail;go_loopw [3] (fun i wr=>∃ k:Nat,i=I_ k/\k<=c.length/\TI (∀ j,j<k->E5 c j=true)/\TI (Below w.heap.size w wr)) (fun i _=>c.length - (intOf i).toNat)
 case atStart=>exact ⟨0,rfl,Nat.zero_le _,fun j hj=>absurd hj (Nat.not_lt_zero _),Below.refl _ _⟩
 case round =>
  obtain ⟨k,rfl,hk,hall,hb⟩:=hrel
  by_cases hlt:k<c.length
  ·obtain ⟨b,off,cap',ev,hbb,h1,h2,h3,h4⟩:=dZ.at (RS.below H.o hb.o) hlt;obtain ⟨rfl,_,rfl⟩:=Za ev;clear ev;have kQ:(k:Int)<(c.length:Int):=by omega
   have ik:=af (show ∀ wz,Below wr.heap.size wr wz->(wz.cell? ⟨b,off+k*4,none⟩=some (I_ (c.getD k Kx.Cached.zero).env)/\wz.cell? ⟨b,off+k*4+1,none⟩=some (I_ (c.getD k Kx.Cached.zero).page) /\
     wz.cell? ⟨b,off+k*4+2,none⟩=some (I_ (c.getD k Kx.Cached.zero).frame)/\wz.cell? ⟨b,off+k*4+3,none⟩=some (.bool (c.getD k Kx.Cached.zero).write)) from fun wz hz =>
    ⟨(hz.cell (p:=⟨b,off+k*4,none⟩) hbb).trans h1,(hz.cell (p:=⟨b,off+k*4+1,none⟩) hbb).trans h2,(hz.cell (p:=⟨b,off+k*4+2,none⟩) hbb).trans h3,(hz.cell (p:=⟨b,off+k*4+3,none⟩) hbb).trans h4⟩)
   have Hc:=af (RS.below H.o hb.o);have HB:=af (show E5 c k=false->dA c=false from fun h=>by
    rw [ku,Bool.and_eq_false_iff,List.all_eq_false];exact .inl ⟨k,by simpa using hlt,by rw [h];simp⟩)
   have HN:=af (show E5 c k=true->∀ j,j<k+1->E5 c j=true from fun h=>fF hall.o h);obtain ⟨q,hqk,hq⟩:=yj hlt;have Hq:=af (show xM c (c.getD k Kx.Cached.zero).env (c.getD k Kx.Cached.zero).page=(q:Int) by unfold xM;rw [hq]);have bF:=af (show E5 c k=(dn (c.getD k Kx.Cached.zero)&&!decide (q<k)) by unfold E5;rw [hq]);clear hq hbb;generalize c.getD k Kx.Cached.zero=x at h1 h2 h3 h4 ik Hq bF
   cases hx:dn x with
   | false =>
    have HF:=af (HB.o (by rw [bF.o,hx];rfl));have Hx:=af hx;clear hx HB HN bF Hq;go_wp2_with fail;refine afT (S:=(fun wz=>wz.cell? ⟨b,off+k*4,none⟩=some (I_ x.env)/\wz.cell? ⟨b,off+k*4+1,none⟩=some (I_ x.page)/\wz.cell? ⟨b,off+k*4+2,none⟩=some (I_ x.frame)/\wz.cell? ⟨b,off+k*4+3,none⟩=some (.bool x.write))) fun hHeld=>?_
    refine afV 0 ?_;refine ahk 4 fun K hK=>?_
    (go_simp;go_at_call 171;refine (pq x _).mono ?_;rintro e w2 ⟨rfl,hb2⟩;rw [Hx.o];have hb3:=Below.gG hb2;have hc3:=ik.o w2 hb3;go_wp2_with fail)
    refine afS hK fun hHeld=>?_
    clear hK K;refine afW 5 ?_;refine afW 13 ?_;refine tH 21 ?_;refine wpAnyH_done (by kernel_rfl) ?_ _;have Hb3:=af (hb.o.trans (hb3.mono hb.o.size));clear hb2 hb3;go_wp2_with fail;go_ret;exact ⟨ak HF.o.symm,Hb3.o⟩
   | true =>
    by_cases Dq:q<k
    ·have HF:=af (HB.o (by rw [bF.o,hx];simp [Dq]));have Hx:=af hx;clear hx HB HN bF;go_wp2_with fail;go_region_held3 (fun wz=>wz.cell? ⟨b,off+k*4,none⟩=some (I_ x.env)/\wz.cell? ⟨b,off+k*4+1,none⟩=some (I_ x.page)/\wz.cell? ⟨b,off+k*4+2,none⟩=some (I_ x.frame)/\wz.cell? ⟨b,off+k*4+3,none⟩=some (.bool x.write))
      (first | assumption | go_keep)
      (first
       | (go_at_call 171;refine (pq x _).mono ?_;rintro e w2 ⟨rfl,hb2⟩;rw [Hx.o];have hb3:=Below.gG hb2;have hc3:=ik.o w2 hb3)
       | (go_at_call 172;refine (yt c _ _ _ _ (RS.below Hc.o hb3)).mono ?_;rintro e w' ⟨rfl,rfl⟩;rw [Hq.o]))
     have Hb3:=af (hb.o.trans (hb3.mono hb.o.size));clear hb2 hb3 hc3;go_wp2_with fail;go_ret;exact ⟨ak HF.o.symm,Hb3.o⟩
    have ug:=af (HN.o (by rw [bF.o,hx];simp [Dq]));have Hx:=af hx;clear hx HB HN bF;go_wp2_with fail;go_region_held3 (fun wz=>wz.cell? ⟨b,off+k*4,none⟩=some (I_ x.env)/\wz.cell? ⟨b,off+k*4+1,none⟩=some (I_ x.page)/\wz.cell? ⟨b,off+k*4+2,none⟩=some (I_ x.frame)/\wz.cell? ⟨b,off+k*4+3,none⟩=some (.bool x.write))
     (first | assumption | go_keep)
     (first
      | (go_at_call 171;refine (pq x _).mono ?_;rintro e w2 ⟨rfl,hb2⟩;rw [Hx.o];have hb3:=Below.gG hb2;have hc3:=ik.o w2 hb3)
      | (go_at_call 172;refine (yt c _ _ _ _ (RS.below Hc.o hb3)).mono ?_;rintro e w' ⟨rfl,rfl⟩;rw [Hq.o]))
    have Hb3:=af (hb.o.trans (hb3.mono hb.o.size));clear hb2 hb3 hc3;go_wp2_with fail;go_roundw
    case rel=>exact ⟨k+1,by go_num,by omega,ug.o,Hb3.o⟩
    case measure=>simp [intOf];omega
  have HF:=af (show dA c=decide (c.length<=4) by
   rw [ku,show (List.range c.length).all (E5 c)=true from by
    rw [List.all_eq_true]; exact fun j hj => hall.o j (by (have : j < c.length := by simpa using hj);omega),Bool.true_and])
  go_wp2_with fail;go_ret;exact ⟨ak (by rw [HF.o];exact Bool.eq_iff_iff.2 (by simp;omega)),hb.o⟩
end Go.Proofs.YthcmmoibpgcgaaaGreatDoor
