/- KW11, KW12, joined. -/
import Derived.Test.YtecnmehlbfklnaaGreatDoorKV
import Derived.Test.YtecnmehlbfklnaaGreatDoorKR
set_option maxHeartbeats 4000000
set_option linter.all false
open List renaming getElem_of_mem->A1,getElem_mem->A2,all_eq_true->A3,all_eq_false->A4,range->A5
open Nat renaming zero_le->A6,not_lt_zero->A9,le_refl->A'
open Bool renaming and_eq_false_iff->Ab
open Go.Value renaming slice->A0
open Go.Proofs.Tryz
namespace Go.Proofs.YtecnmehlbfklnaaGreatDoor
open Go.RowKit Kx
variable {c:List Kx.Cached}
def xM (c:List Kx.Cached) (e p:Int):Int:=match iW c e p with | some i=>(i:Int) | none=>-1
theorem BB {e p:Int} {k:Nat} (hk:k<c.length) (h:(c.getD k Kx.Cached.zero).env=e/\(c.getD k Kx.Cached.zero).page=p)
  (hn:∀ j,j<k->¬ ((c.getD j Kx.Cached.zero).env=e/\(c.getD j Kx.Cached.zero).page=p)):iW c e p=some k:=by
 unfold iW;rw [List.findIdx?_eq_some_iff_getElem];have hg:∀ j (hj:j<c.length),c[j]=c.getD j Kx.Cached.zero:=fun j hj=>by simp [hj]
 refine ⟨hk,by rw [hg k hk];simpa using h,fun j hj=>?_⟩
 rw [hg j (by omega)];have:=hn j hj;simpa using this
theorem yh {e p:Int} (hn:∀ j,j<c.length->¬ ((c.getD j Kx.Cached.zero).env=e/\(c.getD j Kx.Cached.zero).page=p)):iW c e p=none:=by
 unfold iW;rw [List.findIdx?_eq_none_iff];intro x hx;obtain ⟨j,hj,rfl⟩:=A1 hx;have hg:c[j]=c.getD j Kx.Cached.zero:=by simp [hj]
 rw [hg];simpa using hn j hj
theorem yj {k:Nat} (hk:k<c.length):∃ j,j<=k/\iW c (c.getD k Kx.Cached.zero).env (c.getD k Kx.Cached.zero).page=some j:=by
 cases hf:iW c (c.getD k Kx.Cached.zero).env (c.getD k Kx.Cached.zero).page with
 | none =>
  exfalso
  unfold iW at hf;rw [List.findIdx?_eq_none_iff] at hf;have hg:c[k]=c.getD k Kx.Cached.zero:=by simp [hk]
  have:=hf c[k] (A2 hk)
  rw [hg] at this;simp at this
 | some j =>
  refine ⟨j,?_,rfl⟩;unfold iW at hf;obtain ⟨hj,_,hlt⟩:=List.findIdx?_eq_some_iff_getElem.1 hf;refine Nat.not_lt.1 fun h=>?_
  have hg:c[k]=c.getD k Kx.Cached.zero:=by simp [hk]
  have:=hlt k h
  rw [hg] at this;simp at this
theorem yt (c:List Kx.Cached) (e p:Int) (v:Value) (w:World) (h:dZ w v c):Calls prog 125 #[v,I_ e,I_ p] w fun en w'=>en=.returned (I_ (xM c e p))/\w=w':=by
 obtain ⟨a,cap,rfl,_,_⟩:=RS.val h;have hl:=h.1;have H:=af h;clear h;go_enter func125,ntmps125;go_wp2_with fail;go_loop [7] (fun i=>∃ k:Nat,i=I_ k/\k<=c.length/\TI (∀ j,j<k->¬ ((c.getD j Kx.Cached.zero).env=e/\(c.getD j Kx.Cached.zero).page=p))) (fun i=>c.length - (intOf i).toNat)
 case atStart=>exact ⟨0,rfl,A6 _,fun j hj=>absurd hj (A9 _)⟩
 case round =>
  obtain ⟨k,rfl,hk,hall⟩:=hrel
  by_cases hlt:k<c.length
  ·obtain ⟨b,off,cap',ev,_,h1,h2,h3,h4⟩:=dZ.at H.o hlt;obtain ⟨rfl,_,rfl⟩:=Za ev;clear ev;have BC:=af (show (c.getD k Kx.Cached.zero).env=e/\(c.getD k Kx.Cached.zero).page=p->xM c e p=k from fun h=>by unfold xM;rw [BB hlt h hall.o])
   have ET:=af (show ¬ ((c.getD k Kx.Cached.zero).env=e/\(c.getD k Kx.Cached.zero).page=p)->∀ j,j<k+1->¬ ((c.getD j Kx.Cached.zero).env=e/\(c.getD j Kx.Cached.zero).page=p) from fun h j hj=>by
    by_cases ej:j=k
    ·subst ej;exact h
    exact hall.o j (by omega))
   generalize c.getD k Kx.Cached.zero=x at h1 h2 h3 h4 BC ET
   by_cases he:x.env=e
   ·by_cases hp:x.page=p
    ·have HF:=af (BC.o ⟨he,hp⟩);have heb:(x.env==e)=true:=by simpa using he
     have hpb:(x.page==p)=true:=by simpa using hp
     clear he hp BC ET;go_wp2_with fail;go_ret;exact ⟨aZ HF.o.symm,rfl⟩
    have HM:=af (ET.o fun h=>hp h.2);have heb:(x.env==e)=true:=by simpa using he
    have hpb:(x.page==p)=false:=by simpa using hp
    clear he hp BC ET;go_wp2_with fail;go_round
    case rel=>exact ⟨k+1,by go_num,by omega,HM.o⟩
    case measure=>simp [intOf];omega
   have HM:=af (ET.o fun h=>he h.1);have heb:(x.env==e)=false:=by simpa using he
   clear he BC ET;go_wp2_with fail;go_round
   case rel=>exact ⟨k+1,by go_num,by omega,HM.o⟩
   case measure=>simp [intOf];omega
  have HF:=af (show xM c e p=-1 by unfold xM;rw [yh fun j hj=>hall.o j (by omega)])
  go_wp2_with fail;go_ret;exact ⟨aZ HF.o.symm,rfl⟩
theorem Below.gG {w w':World} (h:Below w.drew.heap.size w.drew w'):Below w.heap.size w w':=⟨h.os,h.tape,h.output,h.size,h.block⟩
theorem pq (x:Kx.Cached) (w:World):Calls prog 124 #[iT x] w fun e w'=>e=.returned (.bool (dn x))/\Below w.heap.size w w':=by
 have hb:=af (show Below w.heap.size w (w.alloc (.cells #[I_ x.env,I_ x.page,I_ x.frame,.bool x.write] 51)) from fZ.alloc aW _);have hv:=af (show dn x=(Kx.bK x.env 0 2&&Kx.bK x.page 0 15&&Kx.bK x.frame 0 11) from rfl);unfold iT;go_enter func124,ntmps124;go_wp2_with fail;refine (qZ _ _).mono ?_;rintro e w' ⟨rfl,rfl⟩
 cases h1:Kx.bK x.env 0 2
 ·rw [h1] at hv;clear h1;go_wp2_with fail;go_ret;exact ⟨ak (by rw [hv.o];rfl),hb.o⟩
 rw [h1] at hv;clear h1;go_wp2_with fail;refine (dJ _ _ _ _).mono ?_;rintro e w' ⟨rfl,rfl⟩
 cases h1:Kx.bK x.page 0 15
 ·rw [h1] at hv;clear h1;go_wp2_with fail;go_ret;exact ⟨ak (by rw [hv.o];rfl),hb.o⟩
 rw [h1] at hv;clear h1;go_wp2_with fail;refine (dI _ _).mono ?_;rintro e w' ⟨rfl,rfl⟩;go_wp2_with fail;go_ret;exact ⟨ak (by rw [hv.o];rfl),hb.o⟩
def E5 (c:List Kx.Cached) (i:Nat):Bool:=dn (c.getD i Kx.Cached.zero)&&!(match iW c (c.getD i Kx.Cached.zero).env (c.getD i Kx.Cached.zero).page with | some j=>decide (j<i) | none=>false)
theorem ku (c:List Kx.Cached):dA c=((A5 c.length).all (E5 c)&&decide (c.length<=4)):=rfl
theorem oh (c:List Kx.Cached) (v:Value) (w:World) (h:dZ w v c):Calls prog 74 #[v] w fun en w'=>en=.returned (.bool (dA c))/\Below w.heap.size w w':=by
 obtain ⟨a,cap,rfl,_,_⟩:=RS.val h;have hl:=h.1;have H:=af h;clear h;go_enter func74,ntmps74;go_wp2_with fail;go_loopw [3] (fun i wr=>∃ k:Nat,i=I_ k/\k<=c.length/\TI (∀ j,j<k->E5 c j=true)/\TI (Below w.heap.size w wr)) (fun i _=>c.length - (intOf i).toNat)
 case atStart=>exact ⟨0,rfl,A6 _,fun j hj=>absurd hj (A9 _),Below.refl _ _⟩
 case round =>
  obtain ⟨k,rfl,hk,hall,hb⟩:=hrel
  by_cases hlt:k<c.length
  ·obtain ⟨b,off,cap',ev,hbb,h1,h2,h3,h4⟩:=dZ.at (RS.below H.o hb.o) hlt;obtain ⟨rfl,_,rfl⟩:=Za ev;clear ev;have kQ:(k:Int)<(c.length:Int):=by omega
   have ik:=af (show ∀ wz,Below wr.heap.size wr wz->(wz.cell? ⟨b,off+k*4,none⟩=some (I_ (c.getD k Kx.Cached.zero).env)/\wz.cell? ⟨b,off+k*4+1,none⟩=some (I_ (c.getD k Kx.Cached.zero).page) /\
     wz.cell? ⟨b,off+k*4+2,none⟩=some (I_ (c.getD k Kx.Cached.zero).frame)/\wz.cell? ⟨b,off+k*4+3,none⟩=some (.bool (c.getD k Kx.Cached.zero).write)) from fun wz hz =>
    ⟨(hz.cell (p:=⟨b,off+k*4,none⟩) hbb).trans h1,(hz.cell (p:=⟨b,off+k*4+1,none⟩) hbb).trans h2,(hz.cell (p:=⟨b,off+k*4+2,none⟩) hbb).trans h3,(hz.cell (p:=⟨b,off+k*4+3,none⟩) hbb).trans h4⟩)
   have Hc:=af (RS.below H.o hb.o);have HB:=af (show E5 c k=false->dA c=false from fun h=>by
    rw [ku,Ab,A4];exact .inl ⟨k,by simpa using hlt,by rw [h];simp⟩)
   have HN:=af (show E5 c k=true->∀ j,j<k+1->E5 c j=true from fun h=>fF hall.o h);obtain ⟨q,hqk,hq⟩:=yj hlt;have Hq:=af (show xM c (c.getD k Kx.Cached.zero).env (c.getD k Kx.Cached.zero).page=(q:Int) by unfold xM;rw [hq]);have bF:=af (show E5 c k=(dn (c.getD k Kx.Cached.zero)&&!decide (q<k)) by unfold E5;rw [hq]);clear hq hbb;generalize c.getD k Kx.Cached.zero=x at h1 h2 h3 h4 ik Hq bF
   cases hx:dn x with
   | false =>
    have HF:=af (HB.o (by rw [bF.o,hx];rfl));have Hx:=af hx;clear hx HB HN bF Hq;go_wp2_with fail;refine afT (S:=(fun wz=>wz.cell? ⟨b,off+k*4,none⟩=some (I_ x.env)/\wz.cell? ⟨b,off+k*4+1,none⟩=some (I_ x.page)/\wz.cell? ⟨b,off+k*4+2,none⟩=some (I_ x.frame)/\wz.cell? ⟨b,off+k*4+3,none⟩=some (.bool x.write))) fun hHeld=>?_
    refine afV 0 ?_;refine ahk 4 fun K hK=>?_
    (go_simp;go_at_call 124;refine (pq x _).mono ?_;rintro e w2 ⟨rfl,hb2⟩;rw [Hx.o];have hb3:=Below.gG hb2;have hc3:=ik.o w2 hb3;go_wp2_with fail)
    refine afS hK fun hHeld=>?_
    clear hK K;refine afW 5 ?_;refine afW 13 ?_;refine tH 21 ?_;refine wpAnyH_done (by kernel_rfl) ?_ _;have Hb3:=af (hb.o.trans (hb3.mono hb.o.size));clear hb2 hb3;go_wp2_with fail;go_ret;exact ⟨ak HF.o.symm,Hb3.o⟩
   | true =>
    by_cases Dq:q<k
    ·have HF:=af (HB.o (by rw [bF.o,hx];simp [Dq]));have Hx:=af hx;clear hx HB HN bF;go_wp2_with fail;go_region_held3 (fun wz=>wz.cell? ⟨b,off+k*4,none⟩=some (I_ x.env)/\wz.cell? ⟨b,off+k*4+1,none⟩=some (I_ x.page)/\wz.cell? ⟨b,off+k*4+2,none⟩=some (I_ x.frame)/\wz.cell? ⟨b,off+k*4+3,none⟩=some (.bool x.write))
      (first | assumption | go_keep)
      (first
       | (go_at_call 124;refine (pq x _).mono ?_;rintro e w2 ⟨rfl,hb2⟩;rw [Hx.o];have hb3:=Below.gG hb2;have hc3:=ik.o w2 hb3)
       | (go_at_call 125;refine (yt c _ _ _ _ (RS.below Hc.o hb3)).mono ?_;rintro e w' ⟨rfl,rfl⟩;rw [Hq.o]))
     have Hb3:=af (hb.o.trans (hb3.mono hb.o.size));clear hb2 hb3 hc3;go_wp2_with fail;go_ret;exact ⟨ak HF.o.symm,Hb3.o⟩
    have ug:=af (HN.o (by rw [bF.o,hx];simp [Dq]));have Hx:=af hx;clear hx HB HN bF;go_wp2_with fail;go_region_held3 (fun wz=>wz.cell? ⟨b,off+k*4,none⟩=some (I_ x.env)/\wz.cell? ⟨b,off+k*4+1,none⟩=some (I_ x.page)/\wz.cell? ⟨b,off+k*4+2,none⟩=some (I_ x.frame)/\wz.cell? ⟨b,off+k*4+3,none⟩=some (.bool x.write))
     (first | assumption | go_keep)
     (first
      | (go_at_call 124;refine (pq x _).mono ?_;rintro e w2 ⟨rfl,hb2⟩;rw [Hx.o];have hb3:=Below.gG hb2;have hc3:=ik.o w2 hb3)
      | (go_at_call 125;refine (yt c _ _ _ _ (RS.below Hc.o hb3)).mono ?_;rintro e w' ⟨rfl,rfl⟩;rw [Hq.o]))
    have Hb3:=af (hb.o.trans (hb3.mono hb.o.size));clear hb2 hb3 hc3;go_wp2_with fail;go_roundw
    case rel=>exact ⟨k+1,by go_num,by omega,ug.o,Hb3.o⟩
    case measure=>simp [intOf];omega
  have HF:=af (show dA c=decide (c.length<=4) by
   rw [ku,show (A5 c.length).all (E5 c)=true from by
    rw [A3]; exact fun j hj => hall.o j (by (have : j < c.length := by simpa using hj);omega),Bool.true_and])
  go_wp2_with fail;go_ret;exact ⟨ak (by rw [HF.o];exact Bool.eq_iff_iff.2 (by simp;omega)),hb.o⟩
def Ah (k:Kx.Kernel) (i:Nat):Bool:=qw k (au k.ah i)
theorem oZ (k:Kx.Kernel):k.ah.all (qw k)=(A5 k.ah.length).all (Ah k):=by
 rw [Bool.eq_iff_iff,A3,A3];constructor
 ·intro h i hi;have hi:i<k.ah.length:=by simpa using hi
  have e:au k.ah i=k.ah[i]:=by simp [au,hi]
  unfold Ah;rw [e];exact h _ (A2 hi)
 intro h x hx;obtain ⟨i,hi,rfl⟩:=A1 hx;have:=h i (by simpa using hi);have e:au k.ah i=k.ah[i]:=by simp [au,hi]
 unfold Ah at this;rwa [e] at this
theorem jK {m:List (List Int)} {r:Int}:∀ f ∈ Kx.reach m r,f<12:=by
 unfold Kx.reach fE;split
 ·simp
 intro f hf;have:=(List.mem_filter.1 hf).1;simpa using this
def Am (l:List Kx.Env):Prop:=∀ e,e<l.length->Dw (au l e).aB
theorem Pz.new (w:World) (v0 v1:Value) (e:TypeId):(w.alloc (.cells #[v0,v1] e)).cell? ⟨w.heap.size,0,none⟩=some v0/\(w.alloc (.cells #[v0,v1] e)).cell? ⟨w.heap.size,1,none⟩=some v1/\w.heap.size<(w.alloc (.cells #[v0,v1] e)).heap.size:=by
 have h:(w.alloc (.cells #[v0,v1] e)).heap[w.heap.size]?=some (.cells #[v0,v1] e (0,0)):=heap_alloc_new w _;exact ⟨cell_of_row _ _ 0 _ _ _ h,cell_of_row _ _ 1 _ _ _ h,by simp⟩
theorem Hz (k:Kx.Kernel) (vm vi ve vc:Value) (w:World) (h:RK w vm vi ve vc k) (hmo:bW k.mem=true) (jI:k.ag.length=12) (hse:Am k.ah) :
  Calls prog 75 #[.agg #[vm,vi,ve,vc]] w fun e w'=>e=.returned (.bool (iw k))/\Below w.heap.size w w':=by
 obtain ⟨w0,hw0⟩:=XP (w.alloc (.cells #[vm,vi,ve,vc] 28));have dB:=af (show Below w.heap.size w w0 from hw0 ▸ (Below.refl w.heap.size w).alloc aW _);have jF:=af (show kK w0 w.heap.size vm vi ve vc from hw0 ▸ kK.new w vm vi ve vc _);have HK:=af (h.below dB.o);obtain ⟨hel,ae,ce,rfl,_,_⟩:=h.e.len;obtain ⟨ai,ci,rfl,_,_⟩:=RS.val h.i;obtain ⟨_,am,cm,rfl,_,_⟩:=h.m.len;have nM:=af jI;have kG:=af hmo;have Hse:=af hse;clear h jI hmo hse;go_enter func75,ntmps75;go_wp2_with fail;clear hw0;go_loopw [3] (fun i wr=>∃ q:Nat,i=I_ q/\q<=k.ah.length/\TI (∀ j,j<q->Ah k j=true)/\TI (Below w0.heap.size w0 wr)) (fun i _=>k.ah.length - (intOf i).toNat)
 case atStart=>exact ⟨0,rfl,A6 _,fun j hj=>absurd hj (A9 _),Below.refl _ _⟩
 case round =>
  obtain ⟨q,rfl,hq,hall,hb⟩:=hrel
  by_cases hlt:q<k.ah.length
  ·obtain ⟨k0,k1,k2,k3,hbl⟩:=jF.o.below hb.o;obtain ⟨b,off,cap,u,ev,hbb,h1,h2,h3⟩:=(HK.o.e.below hb.o).at hlt;obtain ⟨rfl,_,rfl⟩:=Za ev;clear ev;have kQ:(q:Int)<(k.ah.length:Int):=by omega
   have HR:=af h3;have uf:=af (Hse.o q hlt);have HB:=af (show Ah k q=false->iw k=false from fun h=>by
    unfold iw;rw [oZ,Ab,A4];exact .inl ⟨q,by simpa using hlt,by rw [h];simp⟩)
   have HN:=af (show Ah k q=true->∀ j,j<q+1->Ah k j=true from fun h=>fF hall.o h);have bF:=af (show Ah k q=(aS (au k.ah q).aB&&Kx.bK (au k.ah q).root (-1) 11&&(decide ((au k.ah q).root<0)||(Kx.inf k.ag (au k.ah q).root.toNat).kind==3)&&Kx.allowed k.ag (Kx.reach k.mem (au k.ah q).root) (au k.ah q).aB) from rfl);clear h3;generalize (au k.ah q).root=r at h2 bF;generalize (au k.ah q).aB=l at HR uf bF;obtain ⟨x,y,hx,hv1,hv2⟩:=RS.val HR.o;subst hx;have ND:=af hbl;have S_:=af hbb;clear hbl hbb k3;obtain ⟨W1,hW1⟩:=XP (wr.alloc (.cells #[A0 x l.length y,I_ r] 43));have B1:=af (show Below wr.heap.size wr W1 from hW1 ▸ dm)
   have Bx:=af (show W1.cell? ⟨wr.heap.size,0,none⟩=some (A0 x l.length y)/\W1.cell? ⟨wr.heap.size,1,none⟩=some (I_ r)/\wr.heap.size<W1.heap.size from hW1 ▸ Pz.new wr (A0 x l.length y) (I_ r) 43);have jH:=af (hb.o.trans (B1.o.mono hb.o.size));have M1:=af (HK.o.m.below jH.o);have I1:=af (RS.below HK.o.i jH.o);have R1:=af (RS.below HR.o B1.o);have dS:=af (jF.o.below jH.o)
   cases oU:aS l with
   | false =>
    have HF:=af (HB.o (by rw [bF.o,oU];rfl));have nZ:=af oU;clear oU HB HN bF;have ik:=af (show ∀ wz,Below W1.heap.size W1 wz->(wz.cell? ⟨w.heap.size,0,none⟩=some (A0 am k.mem.length cm)/\wz.cell? ⟨w.heap.size,1,none⟩=some (A0 ai k.ag.length ci)/\wz.cell? ⟨wr.heap.size,0,none⟩=some (A0 x l.length y)/\wz.cell? ⟨wr.heap.size,1,none⟩=some (I_ r)) from fun wz hz =>
     ⟨(hz.cell (p:=⟨w.heap.size,0,none⟩) dS.o.2.2.2.2).trans dS.o.1,(hz.cell (p:=⟨w.heap.size,1,none⟩) dS.o.2.2.2.2).trans dS.o.2.1,(hz.cell (p:=⟨wr.heap.size,0,none⟩) Bx.o.2.2).trans Bx.o.1,(hz.cell (p:=⟨wr.heap.size,1,none⟩) Bx.o.2.2).trans Bx.o.2.1⟩)
    have S1:=ik.o W1 fZ;go_wp2_with fail;refine afi ik fun hHeld=>?_
    refine afU 0 ?_;refine ahk 2 fun K hK=>?_
    (go_simp;go_at_call 126;refine (di l _ W1.drew (show dK W1.drew _ _ from R1.o) uf.o).mono ?_;rintro e w2 ⟨rfl,nn,hw2⟩;rw [nZ.o];have hb2:Below W1.heap.size W1 w2:=(by rw [hw2];exact ⟨rfl,rfl,rfl,A' _,fun _ _=>rfl⟩);clear hw2;have hc2:=ik.o w2 hb2;go_wp2_with fail)
    refine afS hK fun hHeld=>?_
    clear hK K;refine afW 3 ?_;refine afW 11 ?_;refine afW 19 ?_;refine afW 27 ?_;refine afU 35 ?_;refine tH 37 ?_;refine wpAnyH_done (by kernel_rfl) ?_ _;have kV:=af (jH.o.trans (hb2.mono jH.o.size));clear S1;go_wp2_with fail;go_ret;exact ⟨ak HF.o.symm,dB.o.trans (kV.o.mono dB.o.size)⟩
   | true =>
    cases hin:Kx.bK r (-1) 11 with
    | false =>
     have HF:=af (HB.o (by rw [bF.o,oU,hin];rfl));have nZ:=af oU;have jR:=af hin;clear oU hin HB HN bF;have ik:=af (show ∀ wz,Below W1.heap.size W1 wz->(wz.cell? ⟨w.heap.size,0,none⟩=some (A0 am k.mem.length cm)/\wz.cell? ⟨w.heap.size,1,none⟩=some (A0 ai k.ag.length ci)/\wz.cell? ⟨wr.heap.size,0,none⟩=some (A0 x l.length y)/\wz.cell? ⟨wr.heap.size,1,none⟩=some (I_ r)) from fun wz hz =>
      ⟨(hz.cell (p:=⟨w.heap.size,0,none⟩) dS.o.2.2.2.2).trans dS.o.1,(hz.cell (p:=⟨w.heap.size,1,none⟩) dS.o.2.2.2.2).trans dS.o.2.1,(hz.cell (p:=⟨wr.heap.size,0,none⟩) Bx.o.2.2).trans Bx.o.1,(hz.cell (p:=⟨wr.heap.size,1,none⟩) Bx.o.2.2).trans Bx.o.2.1⟩)
     have S1:=ik.o W1 fZ;go_wp2_with fail;refine afi ik fun hHeld=>?_
     refine afU 0 ?_;refine ahk 2 fun K hK=>?_
     (go_simp;go_at_call 126;refine (di l _ W1.drew (show dK W1.drew _ _ from R1.o) uf.o).mono ?_;rintro e w2 ⟨rfl,nn,hw2⟩;rw [nZ.o];have hb2:Below W1.heap.size W1 w2:=(by rw [hw2];exact ⟨rfl,rfl,rfl,A' _,fun _ _=>rfl⟩);clear hw2;have hc2:=ik.o w2 hb2;go_wp2_with fail)
     refine afS hK fun hHeld=>?_
     clear hK K;refine afV 3 ?_;refine ahk 7 fun K hK=>?_
     (go_simp;go_at_call 79;refine (dJ _ _ _ _).mono ?_;rintro e w' ⟨rfl,rfl⟩;rw [jR.o];go_wp2_with fail)
     refine afS hK fun hHeld=>?_
     clear hK K;refine afW 8 ?_;refine afW 16 ?_;refine afW 24 ?_;refine afV 32 ?_;refine afU 36 ?_;refine wpAnyH_done (by kernel_rfl) ?_ _;have kV:=af (jH.o.trans (hb2.mono jH.o.size));clear S1;go_wp2_with fail;go_ret;exact ⟨ak HF.o.symm,dB.o.trans (kV.o.mono dB.o.size)⟩
    | true =>
     have lL:=af (Kx.ay.1 hin).2
     by_cases hneg:r<0
     ·have hn0:decide (0<=r)=false:=by simpa using hneg
      have Hng:=af hneg;clear hneg
      cases hal:Kx.allowed k.ag (Kx.reach k.mem r) l with
      | false =>
       have HF:=af (HB.o (by rw [bF.o,hal,Bool.and_false]));have nZ:=af oU;have jR:=af hin;have Dk:=af hal;clear oU hin hal HB HN bF;have ik:=af (show ∀ wz,Below W1.heap.size W1 wz->(wz.cell? ⟨w.heap.size,0,none⟩=some (A0 am k.mem.length cm)/\wz.cell? ⟨w.heap.size,1,none⟩=some (A0 ai k.ag.length ci)/\wz.cell? ⟨wr.heap.size,0,none⟩=some (A0 x l.length y)/\wz.cell? ⟨wr.heap.size,1,none⟩=some (I_ r)) from fun wz hz =>
        ⟨(hz.cell (p:=⟨w.heap.size,0,none⟩) dS.o.2.2.2.2).trans dS.o.1,(hz.cell (p:=⟨w.heap.size,1,none⟩) dS.o.2.2.2.2).trans dS.o.2.1,(hz.cell (p:=⟨wr.heap.size,0,none⟩) Bx.o.2.2).trans Bx.o.1,(hz.cell (p:=⟨wr.heap.size,1,none⟩) Bx.o.2.2).trans Bx.o.2.1⟩)
       have S1:=ik.o W1 fZ;go_wp2_with fail;refine afi ik fun hHeld=>?_
       refine afU 0 ?_;refine ahk 2 fun K hK=>?_
       (go_simp;go_at_call 126;refine (di l _ W1.drew (show dK W1.drew _ _ from R1.o) uf.o).mono ?_;rintro e w2 ⟨rfl,nn,hw2⟩;rw [nZ.o];have hb2:Below W1.heap.size W1 w2:=(by rw [hw2];exact ⟨rfl,rfl,rfl,A' _,fun _ _=>rfl⟩);clear hw2;have hc2:=ik.o w2 hb2;go_wp2_with fail)
       refine afS hK fun hHeld=>?_
       clear hK K;refine afV 3 ?_;refine ahk 7 fun K hK=>?_
       (go_simp;go_at_call 79;refine (dJ _ _ _ _).mono ?_;rintro e w' ⟨rfl,rfl⟩;rw [jR.o];go_wp2_with fail)
       refine afS hK fun hHeld=>?_
       clear hK K;refine afW 8 ?_;refine afW 16 ?_;refine afW 24 ?_;refine afU 33 ?_;refine ahk 32 fun K hK=>?_
       (go_simp;go_at_call 128;refine (kZ k.mem r _ _ (M1.o.below hb2) kG.o lL.o).mono ?_;rintro e w3 ⟨u3,rfl,ho3,hb3⟩;have fK:=hb2.trans (hb3.mono hb2.size);have hc3:=ik.o w3 fK;have jJ:=af ho3.ri;clear ho3;go_wp2_with fail)
       refine afS hK fun hHeld=>?_
       clear hK K;refine ahk 35 fun K hK=>?_
       (go_simp;go_at_call 127;refine (jw k.ag (Kx.reach k.mem r) l _ _ _ _ (RS.below I1.o fK) jJ.o (RS.below R1.o fK) (fun f hf=>by rw [nM.o];exact jK f hf)).mono ?_;rintro e w4 ⟨rfl,hb4⟩;rw [Dk.o];have hb5:=fK.trans (hb4.mono fK.size);have hc5:=ik.o w4 hb5;go_wp2_with fail)
       refine afS hK fun hHeld=>?_
       clear hK K;refine afU 36 ?_;refine wpAnyH_done (by kernel_rfl) ?_ _;have kV:=af (jH.o.trans (hb5.mono jH.o.size));clear S1;go_wp2_with fail;go_ret;exact ⟨ak HF.o.symm,dB.o.trans (kV.o.mono dB.o.size)⟩
      | true =>
       have ug:=af (HN.o (by rw [bF.o,oU,hin,hal];simp [Hng.o]));have nZ:=af oU;have jR:=af hin;have Dk:=af hal;clear oU hin hal HB HN bF;have ik:=af (show ∀ wz,Below W1.heap.size W1 wz->(wz.cell? ⟨w.heap.size,0,none⟩=some (A0 am k.mem.length cm)/\wz.cell? ⟨w.heap.size,1,none⟩=some (A0 ai k.ag.length ci)/\wz.cell? ⟨wr.heap.size,0,none⟩=some (A0 x l.length y)/\wz.cell? ⟨wr.heap.size,1,none⟩=some (I_ r)) from fun wz hz =>
        ⟨(hz.cell (p:=⟨w.heap.size,0,none⟩) dS.o.2.2.2.2).trans dS.o.1,(hz.cell (p:=⟨w.heap.size,1,none⟩) dS.o.2.2.2.2).trans dS.o.2.1,(hz.cell (p:=⟨wr.heap.size,0,none⟩) Bx.o.2.2).trans Bx.o.1,(hz.cell (p:=⟨wr.heap.size,1,none⟩) Bx.o.2.2).trans Bx.o.2.1⟩)
       have S1:=ik.o W1 fZ;go_wp2_with fail;refine afi ik fun hHeld=>?_
       refine afU 0 ?_;refine ahk 2 fun K hK=>?_
       (go_simp;go_at_call 126;refine (di l _ W1.drew (show dK W1.drew _ _ from R1.o) uf.o).mono ?_;rintro e w2 ⟨rfl,nn,hw2⟩;rw [nZ.o];have hb2:Below W1.heap.size W1 w2:=(by rw [hw2];exact ⟨rfl,rfl,rfl,A' _,fun _ _=>rfl⟩);clear hw2;have hc2:=ik.o w2 hb2;go_wp2_with fail)
       refine afS hK fun hHeld=>?_
       clear hK K;refine afV 3 ?_;refine ahk 7 fun K hK=>?_
       (go_simp;go_at_call 79;refine (dJ _ _ _ _).mono ?_;rintro e w' ⟨rfl,rfl⟩;rw [jR.o];go_wp2_with fail)
       refine afS hK fun hHeld=>?_
       clear hK K;refine afW 8 ?_;refine afW 16 ?_;refine afW 24 ?_;refine afU 33 ?_;refine ahk 32 fun K hK=>?_
       (go_simp;go_at_call 128;refine (kZ k.mem r _ _ (M1.o.below hb2) kG.o lL.o).mono ?_;rintro e w3 ⟨u3,rfl,ho3,hb3⟩;have fK:=hb2.trans (hb3.mono hb2.size);have hc3:=ik.o w3 fK;have jJ:=af ho3.ri;clear ho3;go_wp2_with fail)
       refine afS hK fun hHeld=>?_
       clear hK K;refine ahk 35 fun K hK=>?_
       (go_simp;go_at_call 127;refine (jw k.ag (Kx.reach k.mem r) l _ _ _ _ (RS.below I1.o fK) jJ.o (RS.below R1.o fK) (fun f hf=>by rw [nM.o];exact jK f hf)).mono ?_;rintro e w4 ⟨rfl,hb4⟩;rw [Dk.o];have hb5:=fK.trans (hb4.mono fK.size);have hc5:=ik.o w4 hb5;go_wp2_with fail)
       refine afS hK fun hHeld=>?_
       clear hK K;refine afU 36 ?_;refine wpAnyH_done (by kernel_rfl) ?_ _;have kV:=af (jH.o.trans (hb5.mono jH.o.size));clear S1;go_wp2_with fail;go_roundw
       case rel=>exact ⟨q+1,by go_num,by omega,ug.o,kV.o⟩
       case measure=>simp [intOf];omega
     obtain ⟨x0,rfl⟩:=Int.eq_ofNat_of_zero_le (Int.not_lt.1 hneg);have sD:x0<k.ag.length:=by rw [nM.o];have:=lL.o;omega
     have Oa:(x0:Int)<(k.ag.length:Int):=by omega
     obtain ⟨bi,oi,cap',ev,hbi,h4,_,_⟩:=bV.at I1.o sD;obtain ⟨rfl,_,rfl⟩:=Za ev;clear ev;have PD:=af hbi;have Ob:=af h4;rw [Int.toNat_natCast] at bF;clear hbi h4 hneg sD;generalize (Kx.inf k.ag x0).kind=kd at Ob bF
     by_cases hk3:kd=3
     ·subst hk3
      cases hal:Kx.allowed k.ag (Kx.reach k.mem x0) l with
      | false =>
       have HF:=af (HB.o (by rw [bF.o,hal,Bool.and_false]));have nZ:=af oU;have jR:=af hin;have Dk:=af hal;clear oU hin hal HB HN bF;have ik:=af (show ∀ wz,Below W1.heap.size W1 wz->(wz.cell? ⟨w.heap.size,0,none⟩=some (A0 am k.mem.length cm)/\wz.cell? ⟨w.heap.size,1,none⟩=some (A0 (some ⟨bi,oi,none⟩) k.ag.length ci)/\wz.cell? ⟨wr.heap.size,0,none⟩=some (A0 x l.length y)/\wz.cell? ⟨wr.heap.size,1,none⟩=some (I_ (x0:Int))/\wz.cell? ⟨bi,oi+x0*3,none⟩=some (I_ 3)) from fun wz hz =>
        ⟨(hz.cell (p:=⟨w.heap.size,0,none⟩) dS.o.2.2.2.2).trans dS.o.1,(hz.cell (p:=⟨w.heap.size,1,none⟩) dS.o.2.2.2.2).trans dS.o.2.1,(hz.cell (p:=⟨wr.heap.size,0,none⟩) Bx.o.2.2).trans Bx.o.1,(hz.cell (p:=⟨wr.heap.size,1,none⟩) Bx.o.2.2).trans Bx.o.2.1,(hz.cell (p:=⟨bi,oi+x0*3,none⟩) PD.o).trans Ob.o⟩)
       have S1:=ik.o W1 fZ;go_wp2_with fail;refine afi ik fun hHeld=>?_
       refine afU 0 ?_;refine ahk 2 fun K hK=>?_
       (go_simp;go_at_call 126;refine (di l _ W1.drew (show dK W1.drew _ _ from R1.o) uf.o).mono ?_;rintro e w2 ⟨rfl,nn,hw2⟩;rw [nZ.o];have hb2:Below W1.heap.size W1 w2:=(by rw [hw2];exact ⟨rfl,rfl,rfl,A' _,fun _ _=>rfl⟩);clear hw2;have hc2:=ik.o w2 hb2;go_wp2_with fail)
       refine afS hK fun hHeld=>?_
       clear hK K;refine afV 3 ?_;refine ahk 7 fun K hK=>?_
       (go_simp;go_at_call 79;refine (dJ _ _ _ _).mono ?_;rintro e w' ⟨rfl,rfl⟩;rw [jR.o];go_wp2_with fail)
       refine afS hK fun hHeld=>?_
       clear hK K;refine afW 8 ?_;refine afW 16 ?_;refine afW 24 ?_;refine afU 33 ?_;refine ahk 32 fun K hK=>?_
       (go_simp;go_at_call 128;refine (kZ k.mem (x0:Int) _ _ (M1.o.below hb2) kG.o lL.o).mono ?_;rintro e w3 ⟨u3,rfl,ho3,hb3⟩;have fK:=hb2.trans (hb3.mono hb2.size);have hc3:=ik.o w3 fK;have jJ:=af ho3.ri;clear ho3;go_wp2_with fail)
       refine afS hK fun hHeld=>?_
       clear hK K;refine ahk 35 fun K hK=>?_
       (go_simp;go_at_call 127;refine (jw k.ag (Kx.reach k.mem (x0:Int)) l _ _ _ _ (RS.below I1.o fK) jJ.o (RS.below R1.o fK) (fun f hf=>by rw [nM.o];exact jK f hf)).mono ?_;rintro e w4 ⟨rfl,hb4⟩;rw [Dk.o];have hb5:=fK.trans (hb4.mono fK.size);have hc5:=ik.o w4 hb5;go_wp2_with fail)
       refine afS hK fun hHeld=>?_
       clear hK K;refine afU 36 ?_;refine wpAnyH_done (by kernel_rfl) ?_ _;have kV:=af (jH.o.trans (hb5.mono jH.o.size));clear S1;go_wp2_with fail;go_ret;exact ⟨ak HF.o.symm,dB.o.trans (kV.o.mono dB.o.size)⟩
      | true =>
       have ug:=af (HN.o (by rw [bF.o,oU,hin,hal];simp));have nZ:=af oU;have jR:=af hin;have Dk:=af hal;clear oU hin hal HB HN bF;have ik:=af (show ∀ wz,Below W1.heap.size W1 wz->(wz.cell? ⟨w.heap.size,0,none⟩=some (A0 am k.mem.length cm)/\wz.cell? ⟨w.heap.size,1,none⟩=some (A0 (some ⟨bi,oi,none⟩) k.ag.length ci)/\wz.cell? ⟨wr.heap.size,0,none⟩=some (A0 x l.length y)/\wz.cell? ⟨wr.heap.size,1,none⟩=some (I_ (x0:Int))/\wz.cell? ⟨bi,oi+x0*3,none⟩=some (I_ 3)) from fun wz hz =>
        ⟨(hz.cell (p:=⟨w.heap.size,0,none⟩) dS.o.2.2.2.2).trans dS.o.1,(hz.cell (p:=⟨w.heap.size,1,none⟩) dS.o.2.2.2.2).trans dS.o.2.1,(hz.cell (p:=⟨wr.heap.size,0,none⟩) Bx.o.2.2).trans Bx.o.1,(hz.cell (p:=⟨wr.heap.size,1,none⟩) Bx.o.2.2).trans Bx.o.2.1,(hz.cell (p:=⟨bi,oi+x0*3,none⟩) PD.o).trans Ob.o⟩)
       have S1:=ik.o W1 fZ;go_wp2_with fail;refine afi ik fun hHeld=>?_
       refine afU 0 ?_;refine ahk 2 fun K hK=>?_
       (go_simp;go_at_call 126;refine (di l _ W1.drew (show dK W1.drew _ _ from R1.o) uf.o).mono ?_;rintro e w2 ⟨rfl,nn,hw2⟩;rw [nZ.o];have hb2:Below W1.heap.size W1 w2:=(by rw [hw2];exact ⟨rfl,rfl,rfl,A' _,fun _ _=>rfl⟩);clear hw2;have hc2:=ik.o w2 hb2;go_wp2_with fail)
       refine afS hK fun hHeld=>?_
       clear hK K;refine afV 3 ?_;refine ahk 7 fun K hK=>?_
       (go_simp;go_at_call 79;refine (dJ _ _ _ _).mono ?_;rintro e w' ⟨rfl,rfl⟩;rw [jR.o];go_wp2_with fail)
       refine afS hK fun hHeld=>?_
       clear hK K;refine afW 8 ?_;refine afW 16 ?_;refine afW 24 ?_;refine afU 33 ?_;refine ahk 32 fun K hK=>?_
       (go_simp;go_at_call 128;refine (kZ k.mem (x0:Int) _ _ (M1.o.below hb2) kG.o lL.o).mono ?_;rintro e w3 ⟨u3,rfl,ho3,hb3⟩;have fK:=hb2.trans (hb3.mono hb2.size);have hc3:=ik.o w3 fK;have jJ:=af ho3.ri;clear ho3;go_wp2_with fail)
       refine afS hK fun hHeld=>?_
       clear hK K;refine ahk 35 fun K hK=>?_
       (go_simp;go_at_call 127;refine (jw k.ag (Kx.reach k.mem (x0:Int)) l _ _ _ _ (RS.below I1.o fK) jJ.o (RS.below R1.o fK) (fun f hf=>by rw [nM.o];exact jK f hf)).mono ?_;rintro e w4 ⟨rfl,hb4⟩;rw [Dk.o];have hb5:=fK.trans (hb4.mono fK.size);have hc5:=ik.o w4 hb5;go_wp2_with fail)
       refine afS hK fun hHeld=>?_
       clear hK K;refine afU 36 ?_;refine wpAnyH_done (by kernel_rfl) ?_ _;have kV:=af (jH.o.trans (hb5.mono jH.o.size));clear S1;go_wp2_with fail;go_roundw
       case rel=>exact ⟨q+1,by go_num,by omega,ug.o,kV.o⟩
       case measure=>simp [intOf];omega
     have hkb:(kd != 3)=true:=by simpa using hk3
     have HF:=af (HB.o (by rw [bF.o,show (kd==3)=false from by simpa using hk3,show decide ((x0:Int)<0)=false from by simp];simp));have nZ:=af oU;have jR:=af hin;clear oU hin HB HN bF hk3;have ik:=af (show ∀ wz,Below W1.heap.size W1 wz->(wz.cell? ⟨w.heap.size,0,none⟩=some (A0 am k.mem.length cm)/\wz.cell? ⟨w.heap.size,1,none⟩=some (A0 (some ⟨bi,oi,none⟩) k.ag.length ci)/\wz.cell? ⟨wr.heap.size,0,none⟩=some (A0 x l.length y)/\wz.cell? ⟨wr.heap.size,1,none⟩=some (I_ (x0:Int))/\wz.cell? ⟨bi,oi+x0*3,none⟩=some (I_ kd)) from fun wz hz =>
      ⟨(hz.cell (p:=⟨w.heap.size,0,none⟩) dS.o.2.2.2.2).trans dS.o.1,(hz.cell (p:=⟨w.heap.size,1,none⟩) dS.o.2.2.2.2).trans dS.o.2.1,(hz.cell (p:=⟨wr.heap.size,0,none⟩) Bx.o.2.2).trans Bx.o.1,(hz.cell (p:=⟨wr.heap.size,1,none⟩) Bx.o.2.2).trans Bx.o.2.1,(hz.cell (p:=⟨bi,oi+x0*3,none⟩) PD.o).trans Ob.o⟩)
     have S1:=ik.o W1 fZ;go_wp2_with fail;refine afi ik fun hHeld=>?_
     refine afU 0 ?_;refine ahk 2 fun K hK=>?_
     (go_simp;go_at_call 126;refine (di l _ W1.drew (show dK W1.drew _ _ from R1.o) uf.o).mono ?_;rintro e w2 ⟨rfl,nn,hw2⟩;rw [nZ.o];have hb2:Below W1.heap.size W1 w2:=(by rw [hw2];exact ⟨rfl,rfl,rfl,A' _,fun _ _=>rfl⟩);clear hw2;have hc2:=ik.o w2 hb2;go_wp2_with fail)
     refine afS hK fun hHeld=>?_
     clear hK K;refine afV 3 ?_;refine ahk 7 fun K hK=>?_
     (go_simp;go_at_call 79;refine (dJ _ _ _ _).mono ?_;rintro e w' ⟨rfl,rfl⟩;rw [jR.o];go_wp2_with fail)
     refine afS hK fun hHeld=>?_
     clear hK K;refine afW 8 ?_;refine afW 16 ?_;refine afW 24 ?_;refine afV 32 ?_;refine afU 36 ?_;refine wpAnyH_done (by kernel_rfl) ?_ _;have kV:=af (jH.o.trans (hb2.mono jH.o.size));clear S1;go_wp2_with fail;go_ret;exact ⟨ak HF.o.symm,dB.o.trans (kV.o.mono dB.o.size)⟩
  have HF:=af (show iw k=(k.ah.length==3) by
   unfold iw;rw [oZ,show (A5 k.ah.length).all (Ah k)=true from by
    rw [A3]; exact fun j hj => hall.o j (by (have : j < k.ah.length := by simpa using hj);omega),Bool.true_and])
  obtain ⟨k0,k1,k2,k3,hbl⟩:=jF.o.below hb.o;go_wp2_with fail;go_ret;exact ⟨ak (by rw [HF.o];exact Bool.eq_iff_iff.2 (by simp;omega)),dB.o.trans (hb.o.mono dB.o.size)⟩
end Go.Proofs.YtecnmehlbfklnaaGreatDoor
