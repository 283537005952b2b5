/- KI1, KI2, KI3, KI4, joined. -/
import Derived.Test.YthcmmoibpgcgaaaGreatDoorKWv
set_option maxHeartbeats 4000000
set_option linter.all false
open List renaming all_eq_false->A1
open Nat renaming lt_of_lt_of_le->A2
open Bool renaming and_eq_false_iff->A3
open Go.Value renaming slice->A0
open Go.Proofs.Tryz
namespace Go.Proofs.YthcmmoibpgcgaaaGreatDoor
open Go.RowKit Kx
theorem zF (ws:List Int) (v:Value) (w:World) (h:RI w v ws) :
  Calls prog 134 #[v] w fun e w'=>e=.returned (.bool (!dQ ws))/\Below w.heap.size w w':=by
 have Hc:=af (IU ws v w h);have He:=af (lh ws);obtain ⟨a,cap,rfl⟩:=h.val;clear h;go_enter func134,ntmps134;go_wp2_with (go_at_call 71;refine Hc.o.mono ?_;rintro e w' ⟨rfl,hb'⟩;have kR:=af hb';clear hb';rw [He.o]);go_ret;exact ⟨by rfl,kR.o⟩
theorem kL (m:List (List Int)) (v:Value) (w:World) (h:RM w v m) :
  Calls prog 58 #[v] w fun e w'=>e=.returned (.bool (bW m))/\Below w.heap.size w w':=by
 obtain ⟨hl,a,cap,rfl,_,_⟩:=h.len;obtain ⟨vs,hvl,hvs,hr⟩:=h;have hc:=zZ 134 #[] (fun k=>!dQ (Kx.row m k)) vs _ w hvs ⟨Proofs.enters_of func134 (by kernel_rfl) rfl,fun k W hk hb=>by
  have h2:=(hr k hk (by omega)).below hb;have e1:vs.getD k undef=vs[k]:=by simp [hk]
  have e2:Kx.row m k=m[k]'(by omega):=by simp [Kx.row,show k<m.length by omega]
  show Calls prog 134 #[vs.getD k undef] W fun e w'=>e=.returned (.bool (!dQ (Kx.row m k)))/\Below W.heap.size W w'
  rw [e1,e2];exact zF _ _ _ h2⟩
 have e:((List.range vs.length).any fun k=>!dQ (Kx.row m k))=!(m.all dQ):=by
  rw [hvl,Bool.eq_iff_iff,List.any_eq_true,Bool.not_eq_true',A1];constructor
  ·rintro ⟨k,hk,hq⟩;have hk:k<m.length:=by simpa using hk
   exact ⟨_,Kx.row_mem hk,by simpa using hq⟩
  rintro ⟨x,hx,hq⟩;obtain ⟨k,hk,rfl⟩:=List.getElem_of_mem hx;exact ⟨k,by simpa using hk,by rw [show Kx.row m k=m[k] from by simp [Kx.row,hk]];simpa using hq⟩
 rw [e] at hc;have Hc:=af hc;clear hc e hr hvs hvl;have HM:=af (show bW m=(m.all dQ&&m.length==12) from rfl);generalize m.all dQ=t at Hc HM
 by_cases h12:m.length=12
 ·have hb:((m.length:Int)==12)=true:=by simp;omega
  have fJ:=af h12;clear h12;go_enter func58,ntmps58;go_wp2_with (go_at_call 69;refine Hc.o.mono ?_;rintro e w' ⟨rfl,hb'⟩;have kR:=af hb';clear hb');go_ret;exact ⟨ak (by rw [HM.o,fJ.o];simp),kR.o⟩
 have hb:((m.length:Int)==12)=false:=by simp;omega
 have fJ:=af h12;clear h12;go_enter func58,ntmps58;go_wp2_with fail;go_ret;exact ⟨ak (by rw [HM.o];simp [fJ.o]),Below.refl _ _⟩
theorem tX (x:Kx.Cached) (w:World):Calls prog 138 #[iT x] w fun e w'=>e=.returned (.bool (dn x))/\Below w.heap.size w w':=by
 have hb:=af (show Below w.heap.size w (w.alloc (.cells #[I_ x.env,I_ x.page,I_ x.frame,.bool x.write] 103)) from fZ.alloc aW _);have hv:=af (show dn x=(Kx.bK x.env 0 2&&Kx.bK x.page 0 15&&Kx.bK x.frame 0 11) from rfl);unfold iT;go_enter func138,ntmps138;go_wp2_with fail;refine (BR _ _).mono ?_;rintro e w' ⟨rfl,rfl⟩
 cases h1:Kx.bK x.env 0 2
 ·rw [h1] at hv;clear h1;go_wp2_with fail;go_ret;exact ⟨ak (by rw [hv.o];rfl),hb.o⟩
 rw [h1] at hv;clear h1;go_wp2_with fail;refine (IX _ _).mono ?_;rintro e w' ⟨rfl,rfl⟩
 cases h1:Kx.bK x.page 0 15
 ·rw [h1] at hv;clear h1;go_wp2_with fail;go_ret;exact ⟨ak (by rw [hv.o];rfl),hb.o⟩
 rw [h1] at hv;clear h1;go_wp2_with fail;refine (jO _ _).mono ?_;rintro e w' ⟨rfl,rfl⟩;go_wp2_with fail;go_ret;exact ⟨ak (by rw [hv.o];rfl),hb.o⟩
theorem Jl (x:Kx.Cached) (e p:Int) (b1 b2:Nat) (w:World) (h1:w.cell? ⟨b1,0,none⟩=some (I_ e)) (h2:w.cell? ⟨b2,0,none⟩=some (I_ p)) (g1:b1<w.heap.size) (g2:b2<w.heap.size) :
  Calls prog 203 #[iT x,.pointer (some ⟨b1,0,none⟩),.pointer (some ⟨b2,0,none⟩)] w fun en w'=>en=.returned (.bool (x.env==e&&x.page==p))/\Below w.heap.size w w':=by
 obtain ⟨w0,hw0⟩:=XP (w.alloc (.cells #[I_ x.env,I_ x.page,I_ x.frame,.bool x.write] 103));have B0:=af (show Below w.heap.size w w0 from hw0 ▸ (Below.refl w.heap.size w).alloc aW _);obtain ⟨c0,c1,c2,c3,_⟩:=(show kK w0 w.heap.size (I_ x.env) (I_ x.page) (I_ x.frame) (.bool x.write) from hw0 ▸ kK.new w _ _ _ _ _);have k1:w0.cell? ⟨b1,0,none⟩=some (I_ e):=(B0.o.cell (p:=⟨b1,0,none⟩) g1).trans h1;have k2:w0.cell? ⟨b2,0,none⟩=some (I_ p):=(B0.o.cell (p:=⟨b2,0,none⟩) g2).trans h2;clear h1 h2 g1 g2;have HV:=af (show (x.env==e&&x.page==p)=((x.env==e)&&(x.page==p)) from rfl);unfold iT
 cases he:x.env==e with
 | false =>
  go_enter func203,ntmps203;go_wp2_with fail;go_ret;exact ⟨by rfl,B0.o⟩
 | true =>
  go_enter func203,ntmps203;go_wp2_with fail;go_ret;exact ⟨by rfl,B0.o⟩
theorem Jm {c:List Kx.Cached} {e p r:Int} (h:xU c.length (fun k=>(c.getD k Kx.Cached.zero).env==e&&(c.getD k Kx.Cached.zero).page==p) r):r=xM c e p:=by
 rcases h with ⟨k,hk,hp,hn,rfl⟩ | ⟨hn,rfl⟩
 ·unfold xM;rw [BB hk (by simpa using hp) (fun j hj h=>by have h9:((c.getD j Kx.Cached.zero).env==e&&(c.getD j Kx.Cached.zero).page==p)=false:=hn j hj;rw [h.1,h.2] at h9;simp at h9)]
 unfold xM;rw [yh (fun j hj h=>by have h9:((c.getD j Kx.Cached.zero).env==e&&(c.getD j Kx.Cached.zero).page==p)=false:=hn j hj;rw [h.1,h.2] at h9;simp at h9)]
theorem EQ (c:List Kx.Cached) (e p:Int) (v:Value) (w:World) (h:dZ w v c) :
  Calls prog 139 #[v,I_ e,I_ p] w fun en w'=>en=.returned (I_ (xM c e p))/\Below w.heap.size w w':=by
 obtain ⟨w1,hw1⟩:=XP (w.alloc (.cells #[I_ e] 3));have B1:=af (show Below w.heap.size w w1 from hw1 ▸ dm);have hc1:w1.cell? ⟨w.heap.size,0,none⟩=some (I_ e)/\w.heap.size<w1.heap.size:=by
  subst hw1;have h:(w.alloc (.cells #[I_ e] 3)).heap[w.heap.size]?=some (.cells #[I_ e] 3 (0,0)):=heap_alloc_new w _;exact ⟨cell_of_row _ _ 0 _ _ _ h,by simp⟩
 obtain ⟨w2,hw2⟩:=XP (w1.alloc (.cells #[I_ p] 3));have B2:=af (show Below w1.heap.size w1 w2 from hw2 ▸ dm);have hc2:w2.cell? ⟨w1.heap.size,0,none⟩=some (I_ p)/\w1.heap.size<w2.heap.size:=by
  subst hw2;have h:(w1.alloc (.cells #[I_ p] 3)).heap[w1.heap.size]?=some (.cells #[I_ p] 3 (0,0)):=heap_alloc_new w1 _;exact ⟨cell_of_row _ _ 0 _ _ _ h,by simp⟩
 have hc3:w2.cell? ⟨w.heap.size,0,none⟩=some (I_ e):=(B2.o.cell (p:=⟨w.heap.size,0,none⟩) hc1.2).trans hc1.1;have FD:=af (B1.o.trans (B2.o.mono B1.o.size));have hs1:w.heap.size<w2.heap.size:=A2 hc1.2 B2.o.size;have HC:=af (zY 203 #[.pointer (some ⟨w.heap.size,0,none⟩),.pointer (some ⟨w1.heap.size,0,none⟩)] (fun k=>(c.getD k Kx.Cached.zero).env==e&&(c.getD k Kx.Cached.zero).page==p) c v w2 (RS.below h FD.o)
  ⟨Proofs.enters_of func203 (by kernel_rfl) rfl,fun k W hk hb=>Jl _ e p _ _ W ((hb.cell (p:=⟨w.heap.size,0,none⟩) hs1).trans hc3) ((hb.cell (p:=⟨w1.heap.size,0,none⟩) hc2.2).trans hc2.1) (A2 hs1 hb.size) (A2 hc2.2 hb.size)⟩)
 obtain ⟨a,cap,rfl,_,_⟩:=RS.val h;clear hc1 hc2 hc3 hs1 h;go_enter func139,ntmps139;go_wp2_with (go_at_call 202;refine HC.o.mono ?_;rintro en w' ⟨r,rfl,hf,hb'⟩;have kR:=af hb';have Hf:=af (Jm hf);clear hb' hf);go_ret;exact ⟨aZ Hf.o,FD.o.trans (kR.o.mono FD.o.size)⟩
theorem RS.take {α:Type} {f:α->List Value} {sz:Nat} {w:World} {a:Option Addr} {n cap:Nat} {l:List α} (h:RS f sz w (A0 a n cap) l) (k:Nat) (hk:k<=n):RS f sz w (A0 a k cap) (l.take k):=by
 obtain ⟨h1,h2⟩:=h;rcases h2 with ⟨rfl,a',cap',e,hc,hn⟩ | ⟨b,off,cap',e,hlc,hcm,hb,hc⟩
 ·obtain ⟨rfl,rfl,rfl⟩:=Za e;clear e;obtain rfl:k=0:=by omega
  exact ⟨by simp,.inl ⟨by simp,_,_,rfl,hc,hn⟩⟩
 obtain ⟨rfl,rfl,rfl⟩:=Za e;clear e;refine ⟨by simp;omega,.inr ⟨b,off,cap,by simp [Nat.min_eq_left hk],by simp;omega,hcm,hb,fun i hi j u hu=>?_⟩⟩
 have hi':i<l.length:=by simp at hi;omega
 exact hc i hi' j u (by simpa using hu)
theorem L9 {c:List Kx.Cached} {k q:Nat} (hk:k<c.length) (hqk:q<=k) (hq:iW c (c.getD k Kx.Cached.zero).env (c.getD k Kx.Cached.zero).page=some q) :
  decide (0<=xM (c.take k) (c.getD k Kx.Cached.zero).env (c.getD k Kx.Cached.zero).page)=decide (q<k):=by
 have hg:∀ j,j<k->(c.take k).getD j Kx.Cached.zero=c.getD j Kx.Cached.zero:=fun j hj=>by simp [List.getD,hj]
 have hl:(c.take k).length=k:=by simp;omega
 unfold iW at hq;obtain ⟨Y7,hp,hlt⟩:=List.findIdx?_eq_some_iff_getElem.1 hq;have hG:∀ j (hj:j<c.length),c[j]=c.getD j Kx.Cached.zero:=fun j hj=>by simp [hj]
 rw [hG q Y7] at hp
 by_cases h:q<k
 ·have:=BB (c:=c.take k) (e:=(c.getD k Kx.Cached.zero).env) (p:=(c.getD k Kx.Cached.zero).page) (k:=q) (by omega) (by rw [hg q h];simpa using hp) (fun j hj=>by
   rw [hg j (by omega)];have:=hlt j hj;rw [hG j (by omega)] at this;simpa using this)
  unfold xM;rw [this];simp [h]
 have:iW (c.take k) (c.getD k Kx.Cached.zero).env (c.getD k Kx.Cached.zero).page=none:=yh (fun j hj=>by
  rw [hl] at hj;rw [hg j hj];have:=hlt j (by omega);rw [hG j (by omega)] at this;simpa using this)
 unfold xM;rw [this];simp;omega
theorem uZ (c:List Kx.Cached) (v:Value) (w:World) (h:dZ w v c):Calls prog 60 #[v] w fun en w'=>en=.returned (.bool (dA c))/\Below w.heap.size w w':=by
 obtain ⟨a,cap,rfl,hcl,hcm⟩:=RS.val h;have hl:=h.1;have H:=af h;clear h
 by_cases h4:4<c.length
 ·have HF:=af (show dA c=false by rw [ku,A3];right;simpa using h4);go_enter func60,ntmps60;go_wp2_with fail;go_ret;exact ⟨ak HF.o.symm,Below.refl _ _⟩
 have h4':c.length<=4:=by omega
 go_enter func60,ntmps60;go_wp2_with fail;go_loopw [10] (fun i wr=>∃ k:Nat,i=I_ k/\k<=c.length/\TI (∀ j,j<k->E5 c j=true)/\TI (Below w.heap.size w wr)) (fun i _=>c.length - (intOf i).toNat)
 case atStart=>exact ⟨0,rfl,Nat.zero_le _,fun j hj=>absurd hj (Nat.not_lt_zero _),Below.refl _ _⟩
 case round =>
  obtain ⟨k,rfl,hk,hall,hb⟩:=hrel
  by_cases hlt:k<c.length
  ·obtain ⟨b,off,cap',ev,hbb,h1,h2,h3,h4⟩:=dZ.at (RS.below H.o hb.o) hlt;obtain ⟨rfl,_,rfl⟩:=Za ev;clear ev;have kQ:(k:Int)<(c.length:Int):=by omega
   have hkc:k<=cap:=by omega
   have Hc:=af (RS.below H.o hb.o);have HB:=af (show E5 c k=false->dA c=false from fun h=>by
    rw [ku,A3,A1];exact .inl ⟨k,by simpa using hlt,by rw [h];simp⟩)
   have HN:=af (show E5 c k=true->∀ j,j<k+1->E5 c j=true from fun h=>fF hall.o h);obtain ⟨q,hqk,hq⟩:=yj hlt;have Hq:=af (L9 hlt hqk hq);have bF:=af (show E5 c k=(dn (c.getD k Kx.Cached.zero)&&!decide (q<k)) by unfold E5;rw [hq]);clear hq;generalize c.getD k Kx.Cached.zero=x at h1 h2 h3 h4 Hq bF;obtain ⟨W1,hW1⟩:=XP (wr.alloc (.cells #[I_ x.env,I_ x.page,I_ x.frame,.bool x.write] 103));have B1:=af (show Below wr.heap.size wr W1 from hW1 ▸ dm);have Bx:=af (show kK W1 wr.heap.size (I_ x.env) (I_ x.page) (I_ x.frame) (.bool x.write) from hW1 ▸ kK.new wr _ _ _ _ 103);have jH:=af (hb.o.trans (B1.o.mono hb.o.size));have ZA:=af (RS.below Hc.o B1.o)
   have ik:=af (show ∀ wz,Below W1.heap.size W1 wz->(wz.cell? ⟨wr.heap.size,0,none⟩=some (I_ x.env)/\wz.cell? ⟨wr.heap.size,1,none⟩=some (I_ x.page)/\wz.cell? ⟨wr.heap.size,2,none⟩=some (I_ x.frame)/\wz.cell? ⟨wr.heap.size,3,none⟩=some (.bool x.write)) from fun wz hz=>⟨(hz.cell (p:=⟨wr.heap.size,0,none⟩) Bx.o.2.2.2.2).trans Bx.o.1,(hz.cell (p:=⟨wr.heap.size,1,none⟩) Bx.o.2.2.2.2).trans Bx.o.2.1,(hz.cell (p:=⟨wr.heap.size,2,none⟩) Bx.o.2.2.2.2).trans Bx.o.2.2.1,(hz.cell (p:=⟨wr.heap.size,3,none⟩) Bx.o.2.2.2.2).trans Bx.o.2.2.2.1⟩)
   have S1:=ik.o W1 fZ
   cases hx:dn x with
   | false =>
    have HF:=af (HB.o (by rw [bF.o,hx];rfl));have Hx:=af hx;clear hx HB HN bF Hq;go_wp2_with fail;clear h1 h2 h3 h4 hW1;refine afi ik fun hHeld=>?_
    refine tH 0 ?_;refine ahk 1 fun K hK=>?_
    (go_simp;go_at_call 138;refine (tX x _).mono ?_;rintro e w2 ⟨rfl,hb2⟩;rw [Hx.o];have hb3:=Below.gG hb2;have hc3:=ik.o w2 hb3;go_wp2_with fail)
    refine afS hK fun hHeld=>?_
    clear hK K;refine afW 2 ?_;refine afV 10 ?_;refine wpAnyH_done (by kernel_rfl) ?_ _;have kV:=af (jH.o.trans (hb3.mono jH.o.size));clear S1;go_wp2_with fail;go_ret;exact ⟨ak HF.o.symm,kV.o⟩
   | true =>
    by_cases Dq:q<k
    ·have HF:=af (HB.o (by rw [bF.o,hx];simp [Dq]));have Hx:=af hx;rw [show decide (q<k)=true from by simpa using Dq] at Hq;have hq2:=Hq.o;clear hx HB HN bF hqk Dq Hq;go_wp2_with fail;clear h1 h2 h3 h4 hW1;refine afi ik fun hHeld=>?_
     refine tH 0 ?_;refine ahk 1 fun K hK=>?_
     (go_simp;go_at_call 138;refine (tX x _).mono ?_;rintro e w2 ⟨rfl,hb2⟩;rw [Hx.o];have hb3:=Below.gG hb2;have hc3:=ik.o w2 hb3;go_wp2_with fail)
     refine afS hK fun hHeld=>?_
     clear hK K;refine afW 2 ?_;refine tH 10 ?_;refine ahk 11 fun K hK=>?_
     (go_simp;go_at_call 139;refine (EQ (c.take k) x.env x.page _ _ (RS.take (RS.below ZA.o hb3) k (by omega))).mono ?_;rintro e w4 ⟨rfl,hb4⟩;have hb5:=hb3.trans (hb4.mono hb3.size);have hc5:=ik.o w4 hb5;go_wp2_with fail)
     refine afS hK fun hHeld=>?_
     clear hK K;refine afU 12 ?_;refine wpAnyH_done (by kernel_rfl) ?_ _;have kV:=af (jH.o.trans (hb5.mono jH.o.size));clear S1;go_wp2_with fail;go_ret;exact ⟨ak HF.o.symm,kV.o⟩
    have ug:=af (HN.o (by rw [bF.o,hx];simp;omega));have Hx:=af hx;rw [show decide (q<k)=false from by simpa using Dq] at Hq;have hq2:=Hq.o;clear hx HB HN bF hqk Dq Hq;go_wp2_with fail;clear h1 h2 h3 h4 hW1;refine afi ik fun hHeld=>?_
    refine tH 0 ?_;refine ahk 1 fun K hK=>?_
    (go_simp;go_at_call 138;refine (tX x _).mono ?_;rintro e w2 ⟨rfl,hb2⟩;rw [Hx.o];have hb3:=Below.gG hb2;have hc3:=ik.o w2 hb3;go_wp2_with fail)
    refine afS hK fun hHeld=>?_
    clear hK K;refine afW 2 ?_;refine tH 10 ?_;refine ahk 11 fun K hK=>?_
    (go_simp;go_at_call 139;refine (EQ (c.take k) x.env x.page _ _ (RS.take (RS.below ZA.o hb3) k (by omega))).mono ?_;rintro e w4 ⟨rfl,hb4⟩;have hb5:=hb3.trans (hb4.mono hb3.size);have hc5:=ik.o w4 hb5;go_wp2_with fail)
    refine afS hK fun hHeld=>?_
    clear hK K;refine afU 12 ?_;refine wpAnyH_done (by kernel_rfl) ?_ _;have kV:=af (jH.o.trans (hb5.mono jH.o.size));clear S1;go_wp2_with fail;go_roundw
    case rel=>exact ⟨k+1,by go_num,by omega,ug.o,kV.o⟩
    case measure=>simp [intOf];omega
  have HF:=af (show dA c=true by
   rw [ku,Bool.and_eq_true,List.all_eq_true]
   exact ⟨fun j hj => hall.o j (by (have : j < c.length := by simpa using hj);omega),by simpa using h4'⟩)
  go_wp2_with fail;go_ret;exact ⟨ak HF.o.symm,hb.o⟩
end Go.Proofs.YthcmmoibpgcgaaaGreatDoor
