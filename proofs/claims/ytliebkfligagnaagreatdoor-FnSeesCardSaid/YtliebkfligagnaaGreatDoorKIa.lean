/- KI1, KI2, KI3, KI4, joined. -/
import Derived.Test.YtliebkfligagnaaGreatDoorKWb
set_option maxHeartbeats 4000000
set_option linter.all false
namespace Go.Proofs.YtliebkfligagnaaGreatDoor
open Go.RowKit
theorem zF (ws:List Int) (v:Value) (w:World) (h:RI w v ws) :
  Calls Tryz.prog 137 #[v] w fun e w'=>e=.returned (.bool (!Kx.dQ ws))∧Below w.heap.size w w':=by
 have Hc:=af (IU ws v w h);have He:=af (lh ws);obtain ⟨a,cap,rfl⟩:=h.val;clear h;go_enter Tryz.func137,Tryz.ntmps137;go_wp2_with (go_at_call 138;refine Hc.out.mono ?_;rintro e w' ⟨rfl,hb'⟩;have kR:=af hb';clear hb';rw [He.out]);go_ret;exact ⟨by rfl,kR.out⟩
theorem kL (m:List (List Int)) (v:Value) (w:World) (h:RM w v m) :
  Calls Tryz.prog 80 #[v] w fun e w'=>e=.returned (.bool (Kx.bW m))∧Below w.heap.size w w':=by
 obtain ⟨hl,a,cap,rfl,_,_⟩:=h.len;obtain ⟨vs,hvl,hvs,hr⟩:=h;have hc:=zZ 137 #[] (fun k=>!Kx.dQ (Kx.row m k)) vs _ w hvs ⟨Proofs.enters_of Tryz.func137 (by kernel_rfl) rfl,fun k W hk hb=>by
  have h2:=(hr k hk (by omega)).below hb;have e1:vs.getD k undef=vs[k]:=by simp [hk]
  have e2:Kx.row m k=m[k]'(by omega):=by simp [Kx.row,show k<m.length by omega]
  show Calls Tryz.prog 137 #[vs.getD k undef] W fun e w'=>e=.returned (.bool (!Kx.dQ (Kx.row m k)))∧Below W.heap.size W w'
  rw [e1,e2];exact zF _ _ _ h2⟩
 have e:((List.range vs.length).any fun k=>!Kx.dQ (Kx.row m k))=!(m.all Kx.dQ):=by
  rw [hvl,Bool.eq_iff_iff,List.any_eq_true,Bool.not_eq_true',List.all_eq_false];constructor
  ·rintro ⟨k,hk,hq⟩;have hk:k<m.length:=by simpa using hk
   exact ⟨_,Kx.row_mem hk,by simpa using hq⟩
  rintro ⟨x,hx,hq⟩;obtain ⟨k,hk,rfl⟩:=List.getElem_of_mem hx;exact ⟨k,by simpa using hk,by rw [show Kx.row m k=m[k] from by simp [Kx.row,hk]];simpa using hq⟩
 rw [e] at hc;have Hc:=af hc;clear hc e hr hvs hvl;have HM:=af (show Kx.bW m=(m.all Kx.dQ&&m.length==12) from rfl);generalize m.all Kx.dQ=t at Hc HM
 by_cases h12:m.length=12
 ·have hb:((m.length:Int)==12)=true:=by simp;omega
  have fJ:=af h12;clear h12;go_enter Tryz.func80,Tryz.ntmps80;go_wp2_with (go_at_call 136;refine Hc.out.mono ?_;rintro e w' ⟨rfl,hb'⟩;have kR:=af hb';clear hb');go_ret;exact ⟨ak (by rw [HM.out,fJ.out];simp),kR.out⟩
 have hb:((m.length:Int)==12)=false:=by simp;omega
 have fJ:=af h12;clear h12;go_enter Tryz.func80,Tryz.ntmps80;go_wp2_with fail;go_ret;exact ⟨ak (by rw [HM.out];simp [fJ.out]),Below.refl _ _⟩
theorem tX (x:Kx.Cached) (w:World):Calls Tryz.prog 151 #[iT x] w fun e w'=>e=.returned (.bool (Kx.dn x))∧Below w.heap.size w w':=by
 have hb:=af (show Below w.heap.size w (w.alloc (.cells #[.int .i64 x.env,.int .i64 x.page,.int .i64 x.frame,.bool x.write] 112)) from fZ.alloc aW _);have hv:=af (show Kx.dn x=(Kx.bK x.env 0 2&&Kx.bK x.page 0 15&&Kx.bK x.frame 0 11) from rfl);unfold iT;go_enter Tryz.func151,Tryz.ntmps151;go_wp2_with fail;refine (BR _ _).mono ?_;rintro e w' ⟨rfl,rfl⟩
 cases h1:Kx.bK x.env 0 2
 ·rw [h1] at hv;clear h1;go_wp2_with fail;go_ret;exact ⟨ak (by rw [hv.out];rfl),hb.out⟩
 rw [h1] at hv;clear h1;go_wp2_with fail;refine (IX _ _).mono ?_;rintro e w' ⟨rfl,rfl⟩
 cases h1:Kx.bK x.page 0 15
 ·rw [h1] at hv;clear h1;go_wp2_with fail;go_ret;exact ⟨ak (by rw [hv.out];rfl),hb.out⟩
 rw [h1] at hv;clear h1;go_wp2_with fail;refine (jO _ _).mono ?_;rintro e w' ⟨rfl,rfl⟩;go_wp2_with fail;go_ret;exact ⟨ak (by rw [hv.out];rfl),hb.out⟩
theorem Jl (x:Kx.Cached) (e p:Int) (b1 b2:Nat) (w:World) (h1:w.cell? ⟨b1,0,none⟩=some (.int .i64 e)) (h2:w.cell? ⟨b2,0,none⟩=some (.int .i64 p)) (g1:b1<w.heap.size) (g2:b2<w.heap.size) :
  Calls Tryz.prog 202 #[iT x,.pointer (some ⟨b1,0,none⟩),.pointer (some ⟨b2,0,none⟩)] w fun en w'=>en=.returned (.bool (x.env==e&&x.page==p))∧Below w.heap.size w w':=by
 obtain ⟨w0,hw0⟩:∃ w0,w.alloc (.cells #[.int .i64 x.env,.int .i64 x.page,.int .i64 x.frame,.bool x.write] 112)=w0:=⟨_,rfl⟩;have B0:=af (show Below w.heap.size w w0 from hw0 ▸ (Below.refl w.heap.size w).alloc aW _);obtain ⟨c0,c1,c2,c3,_⟩:=(show kK w0 w.heap.size (.int .i64 x.env) (.int .i64 x.page) (.int .i64 x.frame) (.bool x.write) from hw0 ▸ kK.new w _ _ _ _ _);have k1:w0.cell? ⟨b1,0,none⟩=some (.int .i64 e):=(B0.out.cell (p:=⟨b1,0,none⟩) g1).trans h1;have k2:w0.cell? ⟨b2,0,none⟩=some (.int .i64 p):=(B0.out.cell (p:=⟨b2,0,none⟩) g2).trans h2;clear h1 h2 g1 g2;have HV:=af (show (x.env==e&&x.page==p)=((x.env==e)&&(x.page==p)) from rfl);unfold iT
 cases he:x.env==e with
 | false =>
  go_enter Tryz.func202,Tryz.ntmps202;go_wp2_with fail;go_ret;exact ⟨by rfl,B0.out⟩
 | true =>
  go_enter Tryz.func202,Tryz.ntmps202;go_wp2_with fail;go_ret;exact ⟨by rfl,B0.out⟩
theorem Jm {c:List Kx.Cached} {e p r:Int} (h:xU c.length (fun k=>(c.getD k Kx.Cached.zero).env==e&&(c.getD k Kx.Cached.zero).page==p) r):r=xM c e p:=by
 rcases h with ⟨k,hk,hp,hn,rfl⟩ | ⟨hn,rfl⟩
 ·unfold xM;rw [BB hk (by simpa using hp) (fun j hj h=>by have h9:((c.getD j Kx.Cached.zero).env==e&&(c.getD j Kx.Cached.zero).page==p)=false:=hn j hj;rw [h.1,h.2] at h9;simp at h9)]
 unfold xM;rw [yh (fun j hj h=>by have h9:((c.getD j Kx.Cached.zero).env==e&&(c.getD j Kx.Cached.zero).page==p)=false:=hn j hj;rw [h.1,h.2] at h9;simp at h9)]
theorem EQ (c:List Kx.Cached) (e p:Int) (v:Value) (w:World) (h:dZ w v c) :
  Calls Tryz.prog 152 #[v,.int .i64 e,.int .i64 p] w fun en w'=>en=.returned (.int .i64 (xM c e p))∧Below w.heap.size w w':=by
 obtain ⟨w1,hw1⟩:∃ w1,w.alloc (.cells #[.int .i64 e] 3)=w1:=⟨_,rfl⟩;have B1:=af (show Below w.heap.size w w1 from hw1 ▸ dm);have hc1:w1.cell? ⟨w.heap.size,0,none⟩=some (.int .i64 e)∧w.heap.size<w1.heap.size:=by
  subst hw1;have h:(w.alloc (.cells #[.int .i64 e] 3)).heap[w.heap.size]?=some (.cells #[.int .i64 e] 3 (0,0)):=heap_alloc_new w _;exact ⟨cell_of_row _ _ 0 _ _ _ h,by simp⟩
 obtain ⟨w2,hw2⟩:∃ w2,w1.alloc (.cells #[.int .i64 p] 3)=w2:=⟨_,rfl⟩;have B2:=af (show Below w1.heap.size w1 w2 from hw2 ▸ dm);have hc2:w2.cell? ⟨w1.heap.size,0,none⟩=some (.int .i64 p)∧w1.heap.size<w2.heap.size:=by
  subst hw2;have h:(w1.alloc (.cells #[.int .i64 p] 3)).heap[w1.heap.size]?=some (.cells #[.int .i64 p] 3 (0,0)):=heap_alloc_new w1 _;exact ⟨cell_of_row _ _ 0 _ _ _ h,by simp⟩
 have hc3:w2.cell? ⟨w.heap.size,0,none⟩=some (.int .i64 e):=(B2.out.cell (p:=⟨w.heap.size,0,none⟩) hc1.2).trans hc1.1;have FD:=af (B1.out.trans (B2.out.mono B1.out.size));have hs1:w.heap.size<w2.heap.size:=Nat.lt_of_lt_of_le hc1.2 B2.out.size;have HC:=af (zY 202 #[.pointer (some ⟨w.heap.size,0,none⟩),.pointer (some ⟨w1.heap.size,0,none⟩)] (fun k=>(c.getD k Kx.Cached.zero).env==e&&(c.getD k Kx.Cached.zero).page==p) c v w2 (RS.below h FD.out)
  ⟨Proofs.enters_of Tryz.func202 (by kernel_rfl) rfl,fun k W hk hb=>Jl _ e p _ _ W ((hb.cell (p:=⟨w.heap.size,0,none⟩) hs1).trans hc3) ((hb.cell (p:=⟨w1.heap.size,0,none⟩) hc2.2).trans hc2.1) (Nat.lt_of_lt_of_le hs1 hb.size) (Nat.lt_of_lt_of_le hc2.2 hb.size)⟩)
 obtain ⟨a,cap,rfl,_,_⟩:=RS.val h;clear hc1 hc2 hc3 hs1 h;go_enter Tryz.func152,Tryz.ntmps152;go_wp2_with (go_at_call 201;refine HC.out.mono ?_;rintro en w' ⟨r,rfl,hf,hb'⟩;have kR:=af hb';have Hf:=af (Jm hf);clear hb' hf);go_ret;exact ⟨aZ Hf.out,FD.out.trans (kR.out.mono FD.out.size)⟩
theorem RS.take {α:Type} {f:α→List Value} {sz:Nat} {w:World} {a:Option Addr} {n cap:Nat} {l:List α} (h:RS f sz w (.slice a n cap) l) (k:Nat) (hk:k≤n):RS f sz w (.slice a k cap) (l.take k):=by
 obtain ⟨h1,h2⟩:=h;rcases h2 with ⟨rfl,a',cap',e,hc,hn⟩ | ⟨b,off,cap',e,hlc,hcm,hb,hc⟩
 ·simp only [Value.slice.injEq] at e;obtain ⟨rfl,rfl,rfl⟩:=e;obtain rfl:k=0:=by omega
  exact ⟨by simp,.inl ⟨by simp,_,_,rfl,hc,hn⟩⟩
 simp only [Value.slice.injEq] at e;obtain ⟨rfl,rfl,rfl⟩:=e;refine ⟨by simp;omega,.inr ⟨b,off,cap,by simp [Nat.min_eq_left hk],by simp;omega,hcm,hb,fun i hi j u hu=>?_⟩⟩
 have hi':i<l.length:=by simp at hi;omega
 exact hc i hi' j u (by simpa using hu)
theorem L9 {c:List Kx.Cached} {k q:Nat} (hk:k<c.length) (hqk:q≤k) (hq:Kx.iW c (c.getD k Kx.Cached.zero).env (c.getD k Kx.Cached.zero).page=some q) :
  decide (0≤xM (c.take k) (c.getD k Kx.Cached.zero).env (c.getD k Kx.Cached.zero).page)=decide (q<k):=by
 have hg:∀ j,j<k→(c.take k).getD j Kx.Cached.zero=c.getD j Kx.Cached.zero:=fun j hj=>by simp [List.getD,hj]
 have hl:(c.take k).length=k:=by simp;omega
 unfold Kx.iW at hq;obtain ⟨Y7,hp,hlt⟩:=List.findIdx?_eq_some_iff_getElem.1 hq;have hG:∀ j (hj:j<c.length),c[j]=c.getD j Kx.Cached.zero:=fun j hj=>by simp [hj]
 rw [hG q Y7] at hp
 by_cases h:q<k
 ·have:=BB (c:=c.take k) (e:=(c.getD k Kx.Cached.zero).env) (p:=(c.getD k Kx.Cached.zero).page) (k:=q) (by omega) (by rw [hg q h];simpa using hp) (fun j hj=>by
   rw [hg j (by omega)];have:=hlt j hj;rw [hG j (by omega)] at this;simpa using this)
  unfold xM;rw [this];simp [h]
 have:Kx.iW (c.take k) (c.getD k Kx.Cached.zero).env (c.getD k Kx.Cached.zero).page=none:=yh (fun j hj=>by
  rw [hl] at hj;rw [hg j hj];have:=hlt j (by omega);rw [hG j (by omega)] at this;simpa using this)
 unfold xM;rw [this];simp;omega
theorem uZ (c:List Kx.Cached) (v:Value) (w:World) (h:dZ w v c):Calls Tryz.prog 90 #[v] w fun en w'=>en=.returned (.bool (Kx.dA c))∧Below w.heap.size w w':=by
 obtain ⟨a,cap,rfl,hcl,hcm⟩:=RS.val h;have hl:=h.1;have H:=af h;clear h
 by_cases h4:4<c.length
 ·have HF:=af (show Kx.dA c=false by rw [ku,Bool.and_eq_false_iff];right;simpa using h4);go_enter Tryz.func90,Tryz.ntmps90;go_wp2_with fail;go_ret;exact ⟨ak HF.out.symm,Below.refl _ _⟩
 have h4':c.length≤4:=by omega
 go_enter Tryz.func90,Tryz.ntmps90;go_wp2_with fail;go_loopw [10] (fun i wr=>∃ k:Nat,i=.int .i64 k∧k≤c.length∧Hid (∀ j,j<k→E5 c j=true)∧Hid (Below w.heap.size w wr)) (fun i _=>c.length - (intOf i).toNat)
 case atStart=>exact ⟨0,rfl,Nat.zero_le _,fun j hj=>absurd hj (Nat.not_lt_zero _),Below.refl _ _⟩
 case round =>
  obtain ⟨k,rfl,hk,hall,hb⟩:=hrel
  by_cases hlt:k<c.length
  ·obtain ⟨b,off,cap',ev,hbb,h1,h2,h3,h4⟩:=dZ.at (RS.below H.out hb.out) hlt;simp only [Value.slice.injEq] at ev;obtain ⟨rfl,_,rfl⟩:=ev;have kQ:(k:Int)<(c.length:Int):=by omega
   have hkc:k≤cap:=by omega
   have Hc:=af (RS.below H.out hb.out);have HB:=af (show E5 c k=false→Kx.dA c=false from fun h=>by
    rw [ku,Bool.and_eq_false_iff,List.all_eq_false];exact .inl ⟨k,by simpa using hlt,by rw [h];simp⟩)
   have HN:=af (show E5 c k=true→∀ j,j<k+1→E5 c j=true from fun h=>fF hall.out h);obtain ⟨q,hqk,hq⟩:=yj hlt;have Hq:=af (L9 hlt hqk hq);have bF:=af (show E5 c k=(Kx.dn (c.getD k Kx.Cached.zero)&&!decide (q<k)) by unfold E5;rw [hq]);clear hq;generalize c.getD k Kx.Cached.zero=x at h1 h2 h3 h4 Hq bF;obtain ⟨W1,hW1⟩:∃ W1,wr.alloc (.cells #[.int .i64 x.env,.int .i64 x.page,.int .i64 x.frame,.bool x.write] 112)=W1:=⟨_,rfl⟩;have B1:=af (show Below wr.heap.size wr W1 from hW1 ▸ dm);have Bx:=af (show kK W1 wr.heap.size (.int .i64 x.env) (.int .i64 x.page) (.int .i64 x.frame) (.bool x.write) from hW1 ▸ kK.new wr _ _ _ _ 112);have jH:=af (hb.out.trans (B1.out.mono hb.out.size));have ZA:=af (RS.below Hc.out B1.out)
   have ik:=af (show ∀ wz,Below W1.heap.size W1 wz→(wz.cell? ⟨wr.heap.size,0,none⟩=some (.int .i64 x.env)∧wz.cell? ⟨wr.heap.size,1,none⟩=some (.int .i64 x.page)∧wz.cell? ⟨wr.heap.size,2,none⟩=some (.int .i64 x.frame)∧wz.cell? ⟨wr.heap.size,3,none⟩=some (.bool x.write)) from fun wz hz=>⟨(hz.cell (p:=⟨wr.heap.size,0,none⟩) Bx.out.2.2.2.2).trans Bx.out.1,(hz.cell (p:=⟨wr.heap.size,1,none⟩) Bx.out.2.2.2.2).trans Bx.out.2.1,(hz.cell (p:=⟨wr.heap.size,2,none⟩) Bx.out.2.2.2.2).trans Bx.out.2.2.1,(hz.cell (p:=⟨wr.heap.size,3,none⟩) Bx.out.2.2.2.2).trans Bx.out.2.2.2.1⟩)
   have S1:=ik.out W1 fZ
   cases hx:Kx.dn x with
   | false =>
    have HF:=af (HB.out (by rw [bF.out,hx];rfl));have Hx:=af hx;clear hx HB HN bF Hq;go_wp2_with fail;clear h1 h2 h3 h4 hW1;refine wp_region_held_drew (S:=(fun wz=>wz.cell? ⟨wr.heap.size,0,none⟩=some (.int .i64 x.env)∧wz.cell? ⟨wr.heap.size,1,none⟩=some (.int .i64 x.page)∧wz.cell? ⟨wr.heap.size,2,none⟩=some (.int .i64 x.frame)∧wz.cell? ⟨wr.heap.size,3,none⟩=some (.bool x.write))) (by kernel_rfl) (by first | assumption | go_keep) (fun hHeld=>?_)
    refine tH 0 ?_;refine rH 1 (fun K hK=>?_)
    (rw [if_pos (by rfl)];go_simp;go_at_call 151;refine (tX x _).mono ?_;rintro e w2 ⟨rfl,hb2⟩;rw [Hx.out];have hb3:=Below.gG hb2;have hc3:=ik.out w2 hb3;go_wp2_with fail)
    refine hK.out _ _ ?_ (fun hHeld=>?_)
    ·first | assumption | go_keep
    clear hK K;refine nH ?_;refine tH 2 ?_;refine tH 3 ?_;refine sH 4 ?_;refine sH 5 ?_;refine sH 6 ?_;refine sH 7 ?_;refine sH 8 ?_;refine sH 9 ?_;refine sH 10 ?_;refine sH 11 ?_;refine sH 12 ?_;refine tH 13 ?_;refine wpAnyH_done (by kernel_rfl) ?_ _;have kV:=af (jH.out.trans (hb3.mono jH.out.size));clear S1;go_wp2_with fail;go_ret;exact ⟨ak HF.out.symm,kV.out⟩
   | true =>
    by_cases Dq:q<k
    ·have HF:=af (HB.out (by rw [bF.out,hx];simp [Dq]));have Hx:=af hx;rw [show decide (q<k)=true from by simpa using Dq] at Hq;have hq2:=Hq.out;clear hx HB HN bF hqk Dq Hq;go_wp2_with fail;clear h1 h2 h3 h4 hW1;refine wp_region_held_drew (S:=(fun wz=>wz.cell? ⟨wr.heap.size,0,none⟩=some (.int .i64 x.env)∧wz.cell? ⟨wr.heap.size,1,none⟩=some (.int .i64 x.page)∧wz.cell? ⟨wr.heap.size,2,none⟩=some (.int .i64 x.frame)∧wz.cell? ⟨wr.heap.size,3,none⟩=some (.bool x.write))) (by kernel_rfl) (by first | assumption | go_keep) (fun hHeld=>?_)
     refine tH 0 ?_;refine rH 1 (fun K hK=>?_)
     (rw [if_pos (by rfl)];go_simp;go_at_call 151;refine (tX x _).mono ?_;rintro e w2 ⟨rfl,hb2⟩;rw [Hx.out];have hb3:=Below.gG hb2;have hc3:=ik.out w2 hb3;go_wp2_with fail)
     refine hK.out _ _ ?_ (fun hHeld=>?_)
     ·first | assumption | go_keep
     clear hK K;refine nH ?_;refine tH 2 ?_;refine tH 3 ?_;refine tH 4 ?_;refine tH 5 ?_;refine tH 6 ?_;refine tH 7 ?_;refine tH 8 ?_;refine tH 9 ?_;refine tH 10 ?_;refine rH 11 (fun K hK=>?_)
     (rw [if_pos (by rfl)];go_simp;go_at_call 152;refine (EQ (c.take k) x.env x.page _ _ (RS.take (RS.below ZA.out hb3) k (by omega))).mono ?_;rintro e w4 ⟨rfl,hb4⟩;have hb5:=hb3.trans (hb4.mono hb3.size);have hc5:=ik.out w4 hb5;go_wp2_with fail)
     refine hK.out _ _ ?_ (fun hHeld=>?_)
     ·first | assumption | go_keep
     clear hK K;refine nH ?_;refine tH 12 ?_;refine tH 13 ?_;refine wpAnyH_done (by kernel_rfl) ?_ _;have kV:=af (jH.out.trans (hb5.mono jH.out.size));clear S1;go_wp2_with fail;go_ret;exact ⟨ak HF.out.symm,kV.out⟩
    have ug:=af (HN.out (by rw [bF.out,hx];simp;omega));have Hx:=af hx;rw [show decide (q<k)=false from by simpa using Dq] at Hq;have hq2:=Hq.out;clear hx HB HN bF hqk Dq Hq;go_wp2_with fail;clear h1 h2 h3 h4 hW1;refine wp_region_held_drew (S:=(fun wz=>wz.cell? ⟨wr.heap.size,0,none⟩=some (.int .i64 x.env)∧wz.cell? ⟨wr.heap.size,1,none⟩=some (.int .i64 x.page)∧wz.cell? ⟨wr.heap.size,2,none⟩=some (.int .i64 x.frame)∧wz.cell? ⟨wr.heap.size,3,none⟩=some (.bool x.write))) (by kernel_rfl) (by first | assumption | go_keep) (fun hHeld=>?_)
    refine tH 0 ?_;refine rH 1 (fun K hK=>?_)
    (rw [if_pos (by rfl)];go_simp;go_at_call 151;refine (tX x _).mono ?_;rintro e w2 ⟨rfl,hb2⟩;rw [Hx.out];have hb3:=Below.gG hb2;have hc3:=ik.out w2 hb3;go_wp2_with fail)
    refine hK.out _ _ ?_ (fun hHeld=>?_)
    ·first | assumption | go_keep
    clear hK K;refine nH ?_;refine tH 2 ?_;refine tH 3 ?_;refine tH 4 ?_;refine tH 5 ?_;refine tH 6 ?_;refine tH 7 ?_;refine tH 8 ?_;refine tH 9 ?_;refine tH 10 ?_;refine rH 11 (fun K hK=>?_)
    (rw [if_pos (by rfl)];go_simp;go_at_call 152;refine (EQ (c.take k) x.env x.page _ _ (RS.take (RS.below ZA.out hb3) k (by omega))).mono ?_;rintro e w4 ⟨rfl,hb4⟩;have hb5:=hb3.trans (hb4.mono hb3.size);have hc5:=ik.out w4 hb5;go_wp2_with fail)
    refine hK.out _ _ ?_ (fun hHeld=>?_)
    ·first | assumption | go_keep
    clear hK K;refine nH ?_;refine tH 12 ?_;refine tH 13 ?_;refine wpAnyH_done (by kernel_rfl) ?_ _;have kV:=af (jH.out.trans (hb5.mono jH.out.size));clear S1;go_wp2_with fail;go_roundw
    case rel=>exact ⟨k+1,by go_num,by omega,ug.out,kV.out⟩
    case measure=>simp [intOf];omega
  have HF:=af (show Kx.dA c=true by
   rw [ku,Bool.and_eq_true,List.all_eq_true]
   exact ⟨fun j hj => hall.out j (by have : j < c.length := by simpa using hj
                                     omega),by simpa using h4'⟩)
  go_wp2_with fail;go_ret;exact ⟨ak HF.out.symm,hb.out⟩
end Go.Proofs.YtliebkfligagnaaGreatDoor
