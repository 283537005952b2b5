/- KW13, KW14, KW15, KW16, KW17, joined. -/
import Derived.Test.YthcmmoibpgcgaaaGreatDoorKWu
set_option maxHeartbeats 4000000
set_option linter.all false
open List renaming getElem_of_mem->A1,getElem_mem->A2,all_eq_true->A3,all_eq_false->A4,getElem?_eq_getElem->A5,take_length->A6,length_take->A9,range->A'
open Nat renaming le_trans->Ab,zero_le->Al,not_lt_zero->An,add_zero->Ao
open Int renaming eq_ofNat_of_zero_le->As
open Bool renaming and_eq_true->Av,eq_iff_iff->Ax
open Go.Value renaming slice->A0
open Go.Proofs.Tryz
namespace Go.Proofs.YthcmmoibpgcgaaaGreatDoor
open Go.RowKit Kx
variable {w':World}{vm vi ve vc vs vl vp:Value}
def Dj (k:Kx.Kernel) (i:Nat):Bool:=eH k (k.cache.getD i Kx.Cached.zero)
theorem xK (k:Kx.Kernel):gV k=(A' k.cache.length).all (Dj k):=by
 unfold gV;rw [Ax,A3,A3];constructor
 ·intro h i hi;have hi:i<k.cache.length:=by simpa using hi
  have e:k.cache.getD i Kx.Cached.zero=k.cache[i]:=by simp [hi]
  unfold Dj;rw [e];exact h _ (A2 hi)
 intro h x hx;obtain ⟨i,hi,rfl⟩:=A1 hx;have:=h i (by simpa using hi);have e:k.cache.getD i Kx.Cached.zero=k.cache[i]:=by simp [hi]
 unfold Dj at this;rwa [e] at this
theorem uj {x:Kx.Cached}:dn x=true↔(0<=x.env/\x.env<=2)/\(0<=x.page/\x.page<=15)/\(0<=x.frame/\x.frame<=11):=by
 unfold dn;rw [Av,Av,Kx.ay,Kx.ay,Kx.ay];constructor
 ·rintro ⟨⟨a,b⟩,c⟩;exact ⟨a,b,c⟩
 rintro ⟨a,b,c⟩;exact ⟨⟨a,b⟩,c⟩
theorem yg {c:List Kx.Cached} (h:dA c=true) {i:Nat} (hi:i<c.length):dn (c.getD i Kx.Cached.zero)=true:=by
 rw [ku,Av,A3] at h;have:=h.1 i (by simpa using hi);unfold E5 at this;rw [Av] at this;exact this.1
theorem Dl {a b:Bool} (h:(a==b)=false):(!a==b)=true:=by cases a <;> cases b <;> simp_all
theorem Dn {a b:Bool} (h:(a==b)=true):(!a==b)=false:=by cases a <;> cases b <;> simp_all
theorem Dh.new (w:World) (v0 v1 v2:Value) (e:TypeId):(w.alloc (.cells #[v0,v1,v2] e)).cell? ⟨w.heap.size,0,none⟩=some v0/\(w.alloc (.cells #[v0,v1,v2] e)).cell? ⟨w.heap.size,1,none⟩=some v1/\(w.alloc (.cells #[v0,v1,v2] e)).cell? ⟨w.heap.size,2,none⟩=some v2:=by
 have h:(w.alloc (.cells #[v0,v1,v2] e)).heap[w.heap.size]?=some (.cells #[v0,v1,v2] e (0,0)):=heap_alloc_new w _;exact ⟨cell_of_row _ _ 0 _ _ _ h,cell_of_row _ _ 1 _ _ _ h,cell_of_row _ _ 2 _ _ _ h⟩
theorem Fz (k:Kx.Kernel) (vm vi ve vc:Value) (w:World) (h:RK w vm vi ve vc k) (hmo:bW k.mem=true) (hen:k.ah.length=3) (hco:dA k.cache=true) (hro:∀ e,e<k.ah.length->(au k.ah e).root<=11) :
  Calls prog 98 #[.agg #[vm,vi,ve,vc]] w fun e w'=>e=.returned (.bool (gV k))/\Below w.heap.size w w':=by
 obtain ⟨w0,hw0⟩:=XP (w.alloc (.cells #[vm,vi,ve,vc] 28));have dB:=af (show Below w.heap.size w w0 from hw0 ▸ (Below.refl w.heap.size w).alloc aW _);have jF:=af (show kK w0 w.heap.size vm vi ve vc from hw0 ▸ kK.new w vm vi ve vc _);have HK:=af (h.below dB.o);obtain ⟨_,ae,ce,rfl,_,_⟩:=h.e.len;obtain ⟨ac,cc,rfl,_,_⟩:=RS.val h.c;have hcl:=h.c.1;have L_:=af hen;have kG:=af hmo;have QY:=af hco;have mW:=af hro;clear h hen hmo hco hro;go_enter func98,ntmps98;go_wp2_with fail;clear hw0;go_loopw [3] (fun i wr=>∃ q:Nat,i=I_ q/\q<=k.cache.length/\TI (∀ j,j<q->Dj k j=true)/\TI (Below w0.heap.size w0 wr)) (fun i _=>k.cache.length - (intOf i).toNat)
 case atStart=>exact ⟨0,rfl,Al _,fun j hj=>absurd hj (An _),Below.refl _ _⟩
 case round =>
  obtain ⟨q,rfl,hq,hall,hb⟩:=hrel
  by_cases hlt:q<k.cache.length
  ·obtain ⟨k0,k1,k2,k3,hbl⟩:=jF.o.below hb.o;obtain ⟨b,off,cap,ev,hbb,h1,h2,h3,h4⟩:=dZ.at (RS.below HK.o.c hb.o) hlt;obtain ⟨rfl,_,rfl⟩:=Za ev;clear ev;have kQ:(q:Int)<(k.cache.length:Int):=by omega
   have HB:=af (show Dj k q=false->gV k=false from fun h=>by
    rw [xK,A4];exact ⟨q,by simpa using hlt,by rw [h];simp⟩)
   have HN:=af (show Dj k q=true->∀ j,j<q+1->Dj k j=true from fun h=>fF hall.o h);have bF:=af (show Dj k q=eH k (k.cache.getD q Kx.Cached.zero) from rfl);have hxo:=uj.1 (yg QY.o hlt);generalize k.cache.getD q Kx.Cached.zero=x at h1 h2 h3 h4 bF hxo;obtain ⟨xe,xp,xf,xw⟩:=x;obtain ⟨⟨he0,he2⟩,⟨hp0,PE⟩,_⟩:=hxo;dsimp only at h1 h2 h3 h4 he0 he2 hp0 PE;obtain ⟨e0,rfl⟩:=As he0;obtain ⟨p0,rfl⟩:=As hp0;have he3:e0<k.ah.length:=by rw [L_.o];omega
   have PG:(e0:Int)<(k.ah.length:Int):=by omega
   obtain ⟨b2,mP,cap2,u2,ev,hb2,_,h6,_⟩:=(HK.o.e.below hb.o).at he3;obtain ⟨rfl,_,rfl⟩:=Za ev;clear ev;have Jw:=af (mW.o e0 he3);have hok2:Dj k q=(!decide ((au k.ah e0).root<0)&&((Kx.walk k.mem (au k.ah e0).root.toNat (4*p0)).2==0&&(Kx.walk k.mem (au k.ah e0).root.toNat (4*p0)).1.1==xf&&(Kx.walk k.mem (au k.ah e0).root.toNat (4*p0)).1.2.2==xw)):=bF.o;have bF:=af hok2;generalize (au k.ah e0).root=r at h6 bF Jw;obtain ⟨W1,hW1⟩:=XP (wr.alloc (.cells #[I_ e0,I_ p0,I_ xf,.bool xw] 103));have B1:=af (show Below wr.heap.size wr W1 from hW1 ▸ dm);have Bx:=af (show kK W1 wr.heap.size (I_ e0) (I_ p0) (I_ xf) (.bool xw) from hW1 ▸ kK.new wr _ _ _ _ 103);have jH:=af (hb.o.trans (B1.o.mono hb.o.size));have M1:=af (HK.o.m.below jH.o)
   have dS:=af (jF.o.below jH.o);obtain ⟨c0,c1,c2,c3,_⟩:=Bx.o;obtain ⟨m0,m1,m2,m3,_⟩:=dS.o;have n6:W1.cell? ⟨b2,mP+e0*2+1,none⟩=some (I_ r):=(B1.o.cell (p:=⟨b2,mP+e0*2+1,none⟩) hb2).trans h6;clear hbl hbb hb2 hok2 he0 he2 hp0 h6
   by_cases hneg:r<0
   ·have HF:=af (HB.o (by rw [bF.o,show decide (r<0)=true from by simpa using hneg];rfl));clear HB HN bF;go_wp2_with fail;go_ret;exact ⟨ak HF.o.symm,dB.o.trans (jH.o.mono dB.o.size)⟩
   obtain ⟨x0,rfl⟩:=As (Int.not_lt.1 hneg);have RH:=af (show Calls prog 179 #[vm,I_ (x0:Int),I_ (4*(p0:Int))] W1 _ from by
    rw [show (4*(p0:Int))=((4*p0:Nat):Int) from by omega];exact uy k.mem x0 (4*p0) vm W1 M1.o kG.o (by have:=Jw.o;omega) (by omega))
   rw [Int.toNat_natCast,show decide ((x0:Int)<0)=false from by simp,Bool.not_false,Bool.true_and] at bF;clear hneg;go_wp2_with fail;refine RH.o.mono ?_;rintro e w2 ⟨rfl,hb2⟩;have Vw:=af (Bx.o.below hb2);have Hb2:=af (jH.o.trans (hb2.mono jH.o.size));clear hb2 RH c0 c1 c2 c3 m0 m1 m2 m3 k0 k1 k2 k3 n6 h1 h2 h3 h4;generalize Kx.walk k.mem x0 (4*p0)=res at bF;obtain ⟨⟨f,a,wt⟩,code⟩:=res;dsimp only at bF;unfold kM;dsimp only;obtain ⟨W3,hW3⟩:=XP (w2.alloc (.cells #[I_ f,I_ a,.bool wt] 105));have B3:=af (show Below w2.heap.size w2 W3 from hW3 ▸ dm);obtain ⟨p1,p2,p3⟩:=(show W3.cell? ⟨w2.heap.size,0,none⟩=some (I_ f)/\W3.cell? ⟨w2.heap.size,1,none⟩=some (I_ a)/\W3.cell? ⟨w2.heap.size,2,none⟩=some (.bool wt) from hW3 ▸ Dh.new w2 _ _ _ 105);obtain ⟨c0,c1,c2,c3,_⟩:=Vw.o.below B3.o
   have Hb3:=af (Hb2.o.trans (B3.o.mono Hb2.o.size))
   cases hz:code==0 with
   | false =>
    have HF:=af (HB.o (by rw [bF.o,hz];rfl));have hz2:(code != 0)=true:=by simpa using hz
    clear HB HN bF hz;go_wp2_with fail;go_ret;exact ⟨ak HF.o.symm,dB.o.trans (Hb3.o.mono dB.o.size)⟩
   | true =>
    have hz2:code=0:=by simpa using hz
    subst hz2;clear hz
    cases hfz:f==xf with
    | false =>
     have HF:=af (HB.o (by rw [bF.o,hfz];rfl));have hz2:(f != xf)=true:=by simpa using hfz
     clear HB HN bF hfz;go_wp2_with fail;go_ret;exact ⟨ak HF.o.symm,dB.o.trans (Hb3.o.mono dB.o.size)⟩
    | true =>
     have hz2:(f != xf)=false:=by simpa using hfz
     cases hwz:wt==xw with
     | false =>
      have HF:=af (HB.o (by rw [bF.o,hwz,Bool.and_false]));have hz3:(!wt==xw)=true:=Dl hwz;clear HB HN bF hfz hwz;go_wp2_with fail;go_ret;exact ⟨ak HF.o.symm,dB.o.trans (Hb3.o.mono dB.o.size)⟩
     | true =>
      have ug:=af (HN.o (by rw [bF.o,hfz,hwz];rfl));have hz3:(!wt==xw)=false:=Dn hwz;clear HB HN bF hfz hwz;go_wp2_with fail;go_roundw
      case rel=>exact ⟨q+1,by go_num,by omega,ug.o,Hb3.o⟩
      case measure=>simp [intOf];omega
  have HF:=af (show gV k=true by
   rw [xK, A3]; exact fun j hj => hall.o j (by (have : j < k.cache.length := by simpa using hj);omega))
  obtain ⟨k0,k1,k2,k3,hbl⟩:=jF.o.below hb.o;go_wp2_with fail;go_ret;exact ⟨ak HF.o.symm,dB.o.trans (hb.o.mono dB.o.size)⟩
def iQ (k:Kx.Kernel):Prop:=jo k.ag/\Am k.ah
theorem kJ (k:Kx.Kernel) (vm vi ve vc:Value) (w:World) (h:RK w vm vi ve vc k) (hs:iQ k) :
  Calls prog 27 #[.agg #[vm,vi,ve,vc]] w fun e w'=>e=.returned (.bool (az k))/\Below w.heap.size w w':=by
 obtain ⟨w0,hw0⟩:=XP (w.alloc (.cells #[vm,vi,ve,vc] 28));have dB:=af (show Below w.heap.size w w0 from hw0 ▸ (Below.refl w.heap.size w).alloc aW _);have jF:=af (show kK w0 w.heap.size vm vi ve vc from hw0 ▸ kK.new w vm vi ve vc _);have HK:=af (h.below dB.o);have Hs:=af hs;have HV:=af (show az k=(bW k.mem&&bC k.ag&&dA k.cache&&iw k&&mD k&&mF k&&gV k) from rfl);obtain ⟨k0,k1,k2,k3,hbl⟩:=jF.o;clear h hs hbl;go_enter func27,ntmps27;go_wp2_with fail;clear hw0;refine (nz k.mem _ _ HK.o.m).mono ?_;rintro e w1 ⟨rfl,rfl⟩
 cases hm:bW k.mem
 ·have HF:=af (show az k=false by rw [HV.o,hm];rfl);clear hm HV;go_wp2_with fail;go_ret;exact ⟨ak HF.o.symm,dB.o⟩
 have Hm:=af hm;clear hm;go_wp2_with fail;refine (dX k.ag _ _ HK.o.i Hs.o.1).mono ?_;rintro e w1 ⟨rfl,hb1⟩;have B1:=af hb1;clear hb1;obtain ⟨a0,a1,a2,a3,_⟩:=jF.o.below B1.o;clear k0 k1 k2 k3
 cases hm:bC k.ag
 ·have HF:=af (show az k=false by rw [HV.o,hm];simp);clear hm HV;go_wp2_with fail;go_ret;exact ⟨ak HF.o.symm,dB.o.trans (B1.o.mono dB.o.size)⟩
 have Hi:=af hm;clear hm;have ES:=af (show k.ag.length=12 by have:=Hi.o;unfold bC at this;simp only [Av] at this;simpa using this.2);go_wp2_with fail;refine (oh k.cache _ _ (RS.below HK.o.c B1.o)).mono ?_;rintro e w2 ⟨rfl,hb2⟩;have B2:=af (B1.o.trans (hb2.mono B1.o.size));clear hb2;obtain ⟨k0,k1,k2,k3,_⟩:=jF.o.below B2.o;clear a0 a1 a2 a3
 cases hm:dA k.cache
 ·have HF:=af (show az k=false by rw [HV.o,hm];simp);clear hm HV;go_wp2_with fail;go_ret;exact ⟨ak HF.o.symm,dB.o.trans (B2.o.mono dB.o.size)⟩
 have Hc:=af hm;clear hm;go_wp2_with fail;refine (Hz k vm vi ve vc _ (HK.o.below B2.o) Hm.o ES.o Hs.o.2).mono ?_;rintro e w3 ⟨rfl,hb3⟩;have B3:=af (B2.o.trans (hb3.mono B2.o.size));clear hb3;obtain ⟨a0,a1,a2,a3,_⟩:=jF.o.below B3.o;clear k0 k1 k2 k3
 cases hm:iw k
 ·have HF:=af (show az k=false by rw [HV.o,hm];simp);clear hm HV;go_wp2_with fail;go_ret;exact ⟨ak HF.o.symm,dB.o.trans (B3.o.mono dB.o.size)⟩
 have Yr:=af (show k.ah.length=3 by have:=hm;unfold iw at this;simp only [Av] at this;simpa using this.2);have mW:=af (show ∀ e,e<k.ah.length->(au k.ah e).root<=11 from fun e he=>by
  have:=hm
  unfold iw at this;rw [oZ] at this;simp only [Av,A3] at this;have h2:=this.1 e (by simpa using he);unfold Ah qw at h2;simp only [Av] at h2;exact (Kx.ay.1 h2.1.1.2).2)
 have He:=af hm;clear hm;go_wp2_with fail;refine (DJ k vm vi ve vc _ (HK.o.below B3.o) Hm.o ES.o).mono ?_;rintro e w4 ⟨rfl,hb4⟩;have B4:=af (B3.o.trans (hb4.mono B3.o.size));clear hb4;obtain ⟨k0,k1,k2,k3,_⟩:=jF.o.below B4.o;clear a0 a1 a2 a3
 cases hm:mD k
 ·have HF:=af (show az k=false by rw [HV.o,hm];simp);clear hm HV;go_wp2_with fail;go_ret;exact ⟨ak HF.o.symm,dB.o.trans (B4.o.mono dB.o.size)⟩
 have Ht:=af hm;clear hm;go_wp2_with fail;refine (HY k vm vi ve vc _ (HK.o.below B4.o) Hm.o ES.o (by rw [Yr.o];omega) mW.o).mono ?_;rintro e w5 ⟨rfl,hb5⟩;have B5:=af (B4.o.trans (hb5.mono B4.o.size));clear hb5;obtain ⟨a0,a1,a2,a3,_⟩:=jF.o.below B5.o;clear k0 k1 k2 k3
 cases hm:mF k
 ·have HF:=af (show az k=false by rw [HV.o,hm];simp);clear hm HV;go_wp2_with fail;go_ret;exact ⟨ak HF.o.symm,dB.o.trans (B5.o.mono dB.o.size)⟩
 have HF:=af (show az k=gV k by rw [HV.o,Hm.o,Hi.o,Hc.o,He.o,Ht.o,hm];rfl);clear hm HV;go_wp2_with fail;refine (Fz k vm vi ve vc _ (HK.o.below B5.o) Hm.o Yr.o Hc.o mW.o).mono ?_;rintro e w6 ⟨rfl,hb6⟩;have B6:=af (B5.o.trans (hb6.mono B5.o.size));clear hb6 a0 a1 a2 a3;go_wp2_with fail;go_ret;exact ⟨ak HF.o.symm,dB.o.trans (B6.o.mono dB.o.size)⟩
structure RP (w:World) (vm vi ve vc vs vl vp:Value) (p:aH):Prop where
 k:RK w vm vi ve vc p.k
 s:RM w vs p.swap
 l:RI w vl p.low
 g:rP w vp p.pages
theorem RP.below {w:World} {p:aH} (h:RP w vm vi ve vc vs vl vp p) (hb:Below w.heap.size w w'):RP w' vm vi ve vc vs vl vp p:=
 ⟨h.k.below hb,h.s.below hb,h.l.below hb,RS.below h.g hb⟩
def bU (vm vi ve vc vs vl vp:Value) (hand limit:Int):Value:=.agg #[vm,vi,ve,vc,vs,vl,vp,I_ hand,I_ limit]
def su (w:World) (b:Nat) (vm vi ve vc vs vl vp:Value) (hand limit:Int):Prop:=
 (w.cell? ⟨b,0,none⟩=some vm/\w.cell? ⟨b,1,none⟩=some vi/\w.cell? ⟨b,2,none⟩=some ve/\w.cell? ⟨b,3,none⟩=some vc) /\
 (w.cell? ⟨b,4,none⟩=some vs/\w.cell? ⟨b,5,none⟩=some vl/\w.cell? ⟨b,6,none⟩=some vp/\w.cell? ⟨b,7,none⟩=some (I_ hand)/\w.cell? ⟨b,8,none⟩=some (I_ limit))/\b<w.heap.size
theorem su.new (w:World) (vm vi ve vc vs vl vp:Value) (hand limit:Int) (e:TypeId):su (w.alloc (.cells #[vm,vi,ve,vc,vs,vl,vp,I_ hand,I_ limit] e)) w.heap.size vm vi ve vc vs vl vp hand limit:=by
 have h:(w.alloc (.cells #[vm,vi,ve,vc,vs,vl,vp,I_ hand,I_ limit] e)).heap[w.heap.size]?=some (.cells #[vm,vi,ve,vc,vs,vl,vp,I_ hand,I_ limit] e (0,0)):=heap_alloc_new w _;exact ⟨⟨cell_of_row _ _ 0 _ _ _ h,cell_of_row _ _ 1 _ _ _ h,cell_of_row _ _ 2 _ _ _ h,cell_of_row _ _ 3 _ _ _ h⟩,⟨cell_of_row _ _ 4 _ _ _ h,cell_of_row _ _ 5 _ _ _ h,cell_of_row _ _ 6 _ _ _ h,cell_of_row _ _ 7 _ _ _ h,cell_of_row _ _ 8 _ _ _ h⟩,by simp⟩
theorem su.below {w:World} {b:Nat} {hand limit:Int} (h:su w b vm vi ve vc vs vl vp hand limit) (hb:Below w.heap.size w w'):su w' b vm vi ve vc vs vl vp hand limit:=
 have g {i:Nat} {v:Value} (hc:w.cell? ⟨b,i,none⟩=some v):w'.cell? ⟨b,i,none⟩=some v:=(hb.cell (p:=⟨b,i,none⟩) h.2.2).trans hc
 ⟨⟨g h.1.1,g h.1.2.1,g h.1.2.2.1,g h.1.2.2.2⟩,⟨g h.2.1.1,g h.2.1.2.1,g h.2.1.2.2.1,g h.2.1.2.2.2.1,g h.2.1.2.2.2.2⟩,Nat.lt_of_lt_of_le h.2.2 hb.size⟩
def Na (s:List (List Int)) (j:Nat):Bool:=(Kx.row s j).isEmpty||dQ (Kx.row s j)
theorem BM (s:List (List Int)):jE s=((A' s.length).all (Na s)&&s.length==16):=by
 unfold jE;congr 1;rw [Ax,A3,A3];constructor
 ·intro h i hi;have hi:i<s.length:=by simpa using hi
  have e:Kx.row s i=s[i]:=by simp [Kx.row,hi]
  unfold Na;rw [e];exact h _ (A2 hi)
 intro h x hx;obtain ⟨i,hi,rfl⟩:=A1 hx;have:=h i (by simpa using hi);have e:Kx.row s i=s[i]:=by simp [Kx.row,hi]
 unfold Na at this;rwa [e] at this
theorem lY (s:List (List Int)) (v:Value) (w:World) (h:RM w v s) :
  Calls prog 51 #[v] w fun e w'=>e=.returned (.bool (jE s))/\w=w':=by
 obtain ⟨hl,a,cap,rfl,_,_⟩:=h.len;have H:=af h;clear h;go_enter func51,ntmps51;go_wp2_with fail;go_loop [3] (fun i=>∃ k:Nat,i=I_ k/\k<=s.length/\TI (∀ j,j<k->Na s j=true)) (fun i=>s.length - (intOf i).toNat)
 case atStart=>exact ⟨0,rfl,Al _,fun j hj=>absurd hj (An _)⟩
 case round =>
  obtain ⟨k,rfl,hk,hall⟩:=hrel
  by_cases hlt:k<s.length
  ·obtain ⟨b,off,cap',u,e,_,hc,hr⟩:=H.o.at hlt;obtain ⟨rfl,_,rfl⟩:=Za e;clear e;have HB:=af (show Na s k=false->jE s=false from fun h=>by
    rw [BM,Bool.and_eq_false_iff,A4];exact .inl ⟨k,by simpa using hlt,by rw [h];simp⟩)
   have HN:=af (show Na s k=true->∀ j,j<k+1->Na s j=true from fun h=>fF hall.o h);have bF:=af (show Na s k=((Kx.row s k).isEmpty||dQ (Kx.row s k)) from rfl);have kQ:(k:Int)<(s.length:Int):=by omega
   obtain ⟨a2,cap2,rfl⟩:=hr.val;have Hr:=af hr;clear hr;generalize Kx.row s k=ws at hc bF Hr
   by_cases hem:0<ws.length
   ·have hd:decide (0<ws.length)=true:=by simpa using hem
    have Hd:=af hd
    cases hq:dQ ws with
    | false =>
     have HF:=af (HB.o (by
      rw [bF.o,hq]
      cases ws with
      | nil=>simp at hem
      | cons=>rfl))
     have Hq:=af ((lh ws).trans hq);clear hq HB HN bF;go_wp2_with (go_at_call 129;refine (oJ _ _ _ Hr.o).mono ?_;rintro e w' ⟨rfl,rfl⟩;rw [Hq.o]);go_ret;exact ⟨ak HF.o.symm,rfl⟩
    | true =>
     have ug:=af (HN.o (by rw [bF.o,hq,Bool.or_true]));have Hq:=af ((lh ws).trans hq);clear hq HB HN bF;go_wp2_with (go_at_call 129;refine (oJ _ _ _ Hr.o).mono ?_;rintro e w' ⟨rfl,rfl⟩;rw [Hq.o]);go_round
     case rel=>exact ⟨k+1,by go_num,by omega,ug.o⟩
     case measure=>simp [intOf];omega
   have he:ws=[]:=List.length_eq_zero_iff.1 (by omega);subst he;have ug:=af (HN.o (by rw [bF.o];rfl));clear HB HN bF hem;go_wp2_with fail;go_round
   case rel=>exact ⟨k+1,by go_num,by omega,ug.o⟩
   case measure=>simp [intOf];omega
  have HF:=af (show jE s=(s.length==16) by
   rw [BM,show (A' s.length).all (Na s)=true from by
    rw [A3]; exact fun j hj => hall.o j (by (have : j < s.length := by simpa using hj);omega),Bool.true_and])
  go_wp2_with fail;go_ret;exact ⟨ak (by rw [HF.o];exact Bool.eq_iff_iff.2 (by simp;omega)),rfl⟩
def Md (k:Kx.Kernel) (i:Nat):Bool:=!Kx.may (au k.ah i).aB Kx.sA
theorem H9 {k:Kx.Kernel} (h:k.ah.length=3):Kx.alone k=(Md k 1&&Md k 2&&!Md k 0):=by
 match hk:k.ah,h with
 | [a,b,c],_=>simp [Kx.alone,Md,hk,au]
theorem EX (k:Kx.Kernel) (vm vi ve vc:Value) (w:World) (h:RK w vm vi ve vc k) (hen:k.ah.length=3) :
  Calls prog 52 #[.agg #[vm,vi,ve,vc]] w fun e w'=>e=.returned (.bool (Kx.alone k))/\Below w.heap.size w w':=by
 obtain ⟨w0,hw0⟩:=XP (w.alloc (.cells #[vm,vi,ve,vc] 28));have dB:=af (show Below w.heap.size w w0 from hw0 ▸ (Below.refl w.heap.size w).alloc aW _);have jF:=af (show kK w0 w.heap.size vm vi ve vc from hw0 ▸ kK.new w vm vi ve vc _);have HK:=af (h.below dB.o);obtain ⟨_,ae,ce,rfl,_,_⟩:=h.e.len;have L_:=af hen;have HA:=af (H9 hen);obtain ⟨k0,k1,k2,k3,hbl⟩:=jF.o;obtain ⟨b,off,cap,x0,ev,hb0,h1,_,r0⟩:=HK.o.e.at (k:=0) (by rw [hen];omega);obtain ⟨b',off',cap',x1,ev1,hb1,h2,_,r1⟩:=HK.o.e.at (k:=1) (by rw [hen];omega);obtain ⟨b'',Yt,cap'',x2,Yu,hb2,h3,_,r2⟩:=HK.o.e.at (k:=2) (by rw [hen];omega);obtain ⟨rfl,_,rfl⟩:=Za ev;clear ev;simp only [Value.slice.injEq,Option.some.injEq,Addr.mk.injEq] at ev1 Yu;obtain ⟨⟨rfl,rfl,_⟩,_,rfl⟩:=ev1;obtain ⟨⟨rfl,rfl,_⟩,_,rfl⟩:=Yu;have R0:=af r0;have R1:=af r1;have R2:=af r2
 clear r0 r1 r2 hbl hb0 hb1 hb2 h hen;rw [L_.o] at k2 hw0 ⊢;simp only [Nat.zero_mul,Ao] at h1;go_enter func52,ntmps52;go_wp2_with fail;clear hw0;go_loop [3] (fun i=>∃ q:Nat,i=I_ q/\1<=q/\q<=3/\TI (∀ j,1<=j->j<q->Md k j=true)) (fun i=>3 - (intOf i).toNat)
 case atStart=>exact ⟨1,rfl,Nat.le_refl _,by omega,fun j h1 h2=>absurd h1 (by omega)⟩
 case round =>
  obtain ⟨q,rfl,hq1,hq3,hall⟩:=hrel
  by_cases hlt:q<3
  ·obtain ⟨u,hu,hr⟩:∃ u,w0.cell? ⟨b,off+q*2,none⟩=some u/\TI (dK w0 u (au k.ah q).aB):=by
    rcases (by omega:q=1\/q=2) with rfl | rfl
    ·exact ⟨x1,h2,R1⟩
    exact ⟨x2,h3,R2⟩
   have kQ:(q:Int)<3:=by omega
   cases ha:Md k q with
   | false =>
    have HF:=af (show Kx.alone k=false by
     rw [HA.o];rcases (by omega:q=1\/q=2) with rfl | rfl
     ·rw [ha];rfl
     rw [ha];simp)
    have Hm:=af (show Kx.may (au k.ah q).aB Kx.sA=true by unfold Md at ha;simpa using ha);clear ha;go_wp2_with (go_at_call 130;refine (mO _ Kx.sA _ _ hr.o).mono ?_;rintro e w' ⟨rfl,rfl⟩;rw [Hm.o]);go_ret;exact ⟨ak HF.o.symm,dB.o⟩
   | true =>
    have HN:=af (show ∀ j,1<=j->j<q+1->Md k j=true from fun j hj1 hj=>by
     by_cases e:j=q
     ·subst e;exact ha
     exact hall.o j hj1 (by omega))
    have Hm:=af (show Kx.may (au k.ah q).aB Kx.sA=false by unfold Md at ha;simpa using ha);clear ha;go_wp2_with (go_at_call 130;refine (mO _ Kx.sA _ _ hr.o).mono ?_;rintro e w' ⟨rfl,rfl⟩;rw [Hm.o]);go_round
    case rel=>exact ⟨q+1,by go_num,by omega,by omega,HN.o⟩
    case measure=>simp [intOf];omega
  have e:q=3:=by omega
  subst e;have HF:=af (show Kx.alone k=Kx.may (au k.ah 0).aB Kx.sA by
   rw [HA.o,hall.o 1 (by omega) (by omega),hall.o 2 (by omega) (by omega)];unfold Md;simp)
  go_wp2_with (go_at_call 130;refine (mO _ Kx.sA _ _ R0.o).mono ?_;rintro e w' ⟨rfl,rfl⟩);go_ret;exact ⟨ak HF.o.symm,dB.o⟩
def rQ (s:List (List Int)) (x:Int):Bool:=jE s&&Kx.bK x 0 15&&!(Kx.row s x.toNat).isEmpty
def JQ (s:List (List Int)) (x:Int):List Int:=if rQ s x then Kx.row s x.toNat else []
theorem GX (s:List (List Int)) (x:Int) (v:Value) (w:World) (h:RM w v s) :
  Calls prog 133 #[v,I_ x] w (JR w (JQ s x) (rQ s x)):=by
 obtain ⟨hl,a,cap,rfl,_,_⟩:=h.len;have H:=af h;have Hv:=af (lY s _ w h);clear h;have hok:=af (show rQ s x=(jE s&&Kx.bK x 0 15&&!(Kx.row s x.toNat).isEmpty) from rfl);have Hno:=af (show rQ s x=false->JR w (JQ s x) (rQ s x) (.returned (.tuple #[A0 (some ⟨w.heap.size,0,none⟩) 0 0,.bool false])) (w.alloc (.cells #[] 3)) from fun e=>⟨_,by rw [e],by unfold JQ;rw [e];exact OI.d_ aW,fZ.alloc aW _⟩)
 go_enter func133,ntmps133;go_wp2_with fail;refine Hv.o.mono ?_;rintro e w' ⟨rfl,rfl⟩
 cases h1:jE s with
 | false =>
  have HF:=af (Hno.o (by rw [hok.o,h1];rfl));clear h1 hok Hno;go_wp2_with fail;go_ret2;exact HF.o
 | true =>
  have Hs:=af h1;clear h1;have Hlen:=af (show s.length=16 by have:=Hs.o;rw [BM,Av] at this;simpa using this.2);go_wp2_with fail;refine (dJ _ _ _ _).mono ?_;rintro e w' ⟨rfl,rfl⟩
  cases h1:Kx.bK x 0 15 with
  | false =>
   have HF:=af (Hno.o (by rw [hok.o,h1];simp));clear h1 hok Hno;go_wp2_with fail;go_ret2;exact HF.o
  | true =>
   obtain ⟨h0,h15⟩:=Kx.ay.1 h1;obtain ⟨n,rfl⟩:=As h0;have hn:n<s.length:=by rw [Hlen.o];omega
   have MJ:(n:Int)<(s.length:Int):=by omega
   obtain ⟨b,off,cap',u,e,hb,hc,hr⟩:=H.o.at hn;obtain ⟨rfl,_,rfl⟩:=Za e;clear e;obtain ⟨a2,cap2,rfl⟩:=hr.val;have Hr:=af hr;have Hx:=af h1;have Hw:=af (show rQ s n=true->JQ s n=Kx.row s n from fun e=>by unfold JQ;rw [if_pos e];rfl);rw [Int.toNat_natCast] at hok;clear h1 h0 hr;generalize Kx.row s n=ws at hc hok Hr Hw
   by_cases hem:ws=[]
   ·subst hem;have HF:=af (Hno.o (by rw [hok.o];simp));clear hok Hno Hw;go_wp2_with fail;go_ret2;exact HF.o
   have hd:((ws.length:Int)==0)=false:=by simpa using hem
   have hT:=af (show rQ s n=true by
    rw [hok.o,Hs.o,Hx.o]
    cases ws with
    | nil=>exact absurd rfl hem
    | cons=>rfl)
   have hws:=af (Hw.o hT.o);have hwl:=af (show ws.length<=1099511627776 from Hr.o.1);have hc2:(w.alloc (.cells #[] 3)).cell? ⟨b,off+n,none⟩=some (A0 a2 ws.length cap2):=((Below.refl w.heap.size w).alloc aW _ |>.cell (p:=⟨b,off+n,none⟩) hb).trans hc;have xG:=af (show RI (w.alloc (.cells #[] 3)) (A0 a2 ws.length cap2) ws from Hr.o.below (fZ.alloc aW _));clear hok Hno Hw hem;go_wp2_with (at_builtin;refine nC rfl _ _ rfl w.heap.size _ [] rfl (OI.d_ aW) _ ws rfl xG.o (by have:=hwl.o;simp;omega) (by simp) ?_;intro v' w4 iV hg4;rw [List.nil_append] at iV;have kH:=af iV;have S_:=af (Below.app ((Below.refl w.heap.size w).alloc aW _) (OI.d_ aW) hg4 aW (by simp));clear iV hg4);go_ret2;exact ⟨v',by rw [hT.o];rfl,by rw [hws.o];exact kH.o,S_.o⟩
def uz (p:aH) (wh:Int) (q:Nat):Nat:=(p.pages.take q).countP fun x=>x.wh==wh
theorem H_ (p:aH) (wh:Int):uz p wh 0=0:=by simp [uz]
theorem Ia (p:aH) (wh:Int) (q:Nat) (h:q<p.pages.length):uz p wh (q+1)=uz p wh q+if (aA p.pages q).wh=wh then 1 else 0:=by
 unfold uz;rw [List.take_add_one,A5 h,Option.toList_some,List.countP_append,List.countP_singleton];have e:aA p.pages q=p.pages[q]:=by simp [aA,h]
 rw [e];simp
theorem JS (p:aH) (wh:Int):uz p wh p.pages.length=Kx.countP p wh:=by unfold uz Kx.countP;rw [A6]
theorem Nb (p:aH) (wh:Int) (q:Nat):uz p wh q<=q:=Ab List.countP_le_length (by rw [A9];omega)
theorem x_ (p:aH) (wh:Int) (vm vi ve vc vs vl vp:Value) (hand limit:Int) (w:World) (h:rP w vp p.pages) :
  Calls prog 57 #[bU vm vi ve vc vs vl vp hand limit,I_ wh] w fun e w'=>e=.returned (I_ (Kx.countP p wh))/\Below w.heap.size w w':=by
 obtain ⟨w0,hw0⟩:=XP (w.alloc (.cells #[vm,vi,ve,vc,vs,vl,vp,I_ hand,I_ limit] 32));have dB:=af (show Below w.heap.size w w0 from hw0 ▸ (Below.refl w.heap.size w).alloc aW _);have jF:=af (show su w0 w.heap.size vm vi ve vc vs vl vp hand limit from hw0 ▸ su.new w vm vi ve vc vs vl vp hand limit _);obtain ⟨ap,cp,rfl,_,_⟩:=RS.val h;have hpl:=h.1;have HG:=af (show rP w0 _ p.pages from RS.below h dB.o);clear h;have k6:=jF.o.2.1.2.2.1;unfold bU;go_enter func57,ntmps57;go_wp2_with fail;clear hw0;go_loop [5,6] (fun n i=>∃ q:Nat,i=I_ q/\q<=p.pages.length/\n=I_ (uz p wh q)) (fun _ i=>p.pages.length - (intOf i).toNat)
 case atStart=>exact ⟨0,rfl,Al _,by rw [H_];rfl⟩
 case round =>
  obtain ⟨q,rfl,hq,rfl⟩:=hrel
  by_cases hlt:q<p.pages.length
  ·obtain ⟨b,off,cap,ev,hbb,h1,_,_⟩:=rP.at HG.o hlt;obtain ⟨rfl,_,rfl⟩:=Za ev;clear ev;have kQ:(q:Int)<(p.pages.length:Int):=by omega
   have hst:=af (Ia p wh q hlt);have hle:=Nb p wh q;generalize (aA p.pages q).wh=x at h1 hst
   by_cases hx:x=wh
   ·have hN:=af (show uz p wh (q+1)=uz p wh q+1 by rw [hst.o,if_pos hx]);subst hx;generalize uz p x q=n0 at hN hle;have MJ:(n0:Int)<=1099511627776:=by omega
    clear hst;go_wp2_with fail;go_round
    case rel=>exact ⟨q+1,by go_num,by omega,by rw [hN.o];go_num⟩
    case measure=>simp [intOf];omega
   have hN:=af (show uz p wh (q+1)=uz p wh q by rw [hst.o,if_neg hx,Ao]);have hxb:(x==wh)=false:=by simpa using hx
   clear hst;go_wp2_with fail;go_round
   case rel=>exact ⟨q+1,by go_num,by omega,by rw [hN.o]⟩
   case measure=>simp [intOf];omega
  have e:q=p.pages.length:=by omega
  subst e;have HF:=af (JS p wh);go_wp2_with fail;go_ret;exact ⟨by rw [HF.o];rfl,dB.o⟩
def VO (i:Nat) (x:dV):Bool:=x.wh==2&&x.at_==(i:Int)
def rM (p:aH) (i q:Nat):Nat:=(p.pages.take q).countP (VO i)
theorem Ib (p:aH) (i:Nat):rM p i 0=0:=by simp [rM]
theorem Ic (p:aH) (i q:Nat) (h:q<p.pages.length):rM p i (q+1)=rM p i q+if VO i (aA p.pages q)=true then 1 else 0:=by
 unfold rM;rw [List.take_add_one,A5 h,Option.toList_some,List.countP_append,List.countP_singleton];have e:aA p.pages q=p.pages[q]:=by simp [aA,h]
 rw [e]
theorem JU (p:aH) (i:Nat):rM p i p.pages.length=qf p i:=by unfold rM qf;rw [A6];rfl
theorem Nc (p:aH) (i q:Nat):rM p i q<=q:=Ab List.countP_le_length (by rw [A9];omega)
def Ie (p:aH) (i:Nat):Bool:=qf p i==if (Kx.row p.swap i).isEmpty then 0 else 1
theorem DK (p:aH):mV p=(A' p.swap.length).all (Ie p):=rfl
theorem EY (p:aH) (vm vi ve vc vs vl vp:Value) (hand limit:Int) (w:World) (h:rP w vp p.pages) (hs:RM w vs p.swap) :
  Calls prog 54 #[bU vm vi ve vc vs vl vp hand limit] w fun e w'=>e=.returned (.bool (mV p))/\Below w.heap.size w w':=by
 obtain ⟨w0,hw0⟩:=XP (w.alloc (.cells #[vm,vi,ve,vc,vs,vl,vp,I_ hand,I_ limit] 32));have dB:=af (show Below w.heap.size w w0 from hw0 ▸ (Below.refl w.heap.size w).alloc aW _);have jF:=af (show su w0 w.heap.size vm vi ve vc vs vl vp hand limit from hw0 ▸ su.new w vm vi ve vc vs vl vp hand limit _);obtain ⟨ap,cp,rfl,_,_⟩:=RS.val h;obtain ⟨hsl,as',cs,rfl,_,_⟩:=hs.len;have hpl:=h.1;have HG:=af (show rP w0 _ p.pages from RS.below h dB.o);have HS:=af (hs.below dB.o);clear h hs;have k6:=jF.o.2.1.2.2.1;have k4:=jF.o.2.1.1;unfold bU;go_enter func54,ntmps54;go_wp2_with fail;clear hw0;go_loop [3] (fun i=>∃ q:Nat,i=I_ q/\q<=p.swap.length/\TI (∀ j,j<q->Ie p j=true)) (fun i=>p.swap.length - (intOf i).toNat)
 case atStart=>exact ⟨0,rfl,Al _,fun j hj=>absurd hj (An _)⟩
 case round =>
  obtain ⟨q,rfl,hq,hall⟩:=hrel
  by_cases hlt:q<p.swap.length
  ·obtain ⟨b,off,cap',y,e,_,hc,hr⟩:=HS.o.at hlt;obtain ⟨rfl,_,rfl⟩:=Za e;clear e;have HB:=af (show Ie p q=false->mV p=false from fun h=>by
    rw [DK,A4];exact ⟨q,by simpa using hlt,by rw [h];simp⟩)
   have HN:=af (show Ie p q=true->∀ j,j<q+1->Ie p j=true from fun h=>fF hall.o h);have bF:=af (show Ie p q=(qf p q==if (Kx.row p.swap q).isEmpty then 0 else 1) from rfl);have kQ:(q:Int)<(p.swap.length:Int):=by omega
   obtain ⟨a2,cap2,rfl⟩:=hr.val;clear hr;generalize Kx.row p.swap q=ws at hc bF;go_wp2_with fail;go_loop [4,5] (fun n i=>∃ r:Nat,i=I_ r/\r<=p.pages.length/\n=I_ (rM p q r)) (fun _ i=>p.pages.length - (intOf i).toNat)
   case atStart=>exact ⟨0,rfl,Al _,by rw [Ib];rfl⟩
   case round =>
    obtain ⟨r,rfl,hr,rfl⟩:=hrel
    by_cases hlt2:r<p.pages.length
    ·obtain ⟨bp,op,cap,ev,hbb,h1,h2,_⟩:=rP.at HG.o hlt2;obtain ⟨rfl,_,rfl⟩:=Za ev;clear ev;have Me:(r:Int)<(p.pages.length:Int):=by omega
     have hst:=af (Ic p q r hlt2);have hle:=Nc p q r;have hsp:=af (show VO q (aA p.pages r)=((aA p.pages r).wh==2&&(aA p.pages r).at_==(q:Int)) from rfl);generalize (aA p.pages r).wh=x at h1 hsp;generalize (aA p.pages r).at_=z at h2 hsp
     by_cases hx:x=2
     ·subst hx
      by_cases hz:z=(q:Int)
      ·subst hz;have hN:=af (show rM p q (r+1)=rM p q r+1 by rw [hst.o,if_pos (by rw [hsp.o];simp)]);generalize rM p q r=n0 at hN hle;have MJ:(n0:Int)<=1099511627776:=by omega
       clear hst hsp;go_wp2_with fail;go_round
       case rel=>exact ⟨r+1,by go_num,by omega,by rw [hN.o];go_num⟩
       case measure=>simp [intOf];omega
      have hzb:(z==(q:Int))=false:=by simpa using hz
      have hN:=af (show rM p q (r+1)=rM p q r by rw [hst.o,if_neg (by rw [hsp.o,hzb];simp),Ao]);clear hst hsp hz;go_wp2_with fail;go_round
      case rel=>exact ⟨r+1,by go_num,by omega,by rw [hN.o]⟩
      case measure=>simp [intOf];omega
     have hxb:(x==2)=false:=by simpa using hx
     have hN:=af (show rM p q (r+1)=rM p q r by rw [hst.o,if_neg (by rw [hsp.o,hxb];simp),Ao]);clear hst hsp hx;go_wp2_with fail;go_round
     case rel=>exact ⟨r+1,by go_num,by omega,by rw [hN.o]⟩
     case measure=>simp [intOf];omega
    have e:r=p.pages.length:=by omega
    subst e;rw [JU] at *;have hle:qf p q<=p.pages.length:=by unfold qf;exact List.countP_le_length
    generalize qf p q=N at bF hle ⊢
    by_cases Z8:1<N
    ·have HF:=af (HB.o (by rw [bF.o];simp;split <;> omega));have hNI:(1:Int)<(N:Int):=by omega
     have hNd:decide (1<N)=true:=by simpa using Z8
     clear HB HN bF;go_wp2_with fail;go_ret;exact ⟨ak HF.o.symm,dB.o⟩
    have hwl:0<ws.length\/ws=[]:=by
     cases ws with
     | nil=>exact .inr rfl
     | cons=>exact .inl (by simp)
    rcases (by omega:N=0\/N=1) with rfl | rfl
    ·rcases hwl with hem | rfl
     ·have hd:decide (0<ws.length)=true:=by simpa using hem
      have HF:=af (HB.o (by
       rw [bF.o]
       cases ws with
       | nil=>simp at hem
       | cons=>rfl))
      clear HB HN bF;go_wp2_with fail;go_ret;exact ⟨ak HF.o.symm,dB.o⟩
     have ug:=af (HN.o (by rw [bF.o];rfl));clear HB HN bF;go_wp2_with fail;go_round
     case rel=>exact ⟨q+1,by go_num,by omega,ug.o⟩
     case measure=>simp [intOf];omega
    rcases hwl with hem | rfl
    ·have hd:decide (0<ws.length)=true:=by simpa using hem
     have ug:=af (HN.o (by
      rw [bF.o]
      cases ws with
      | nil=>simp at hem
      | cons=>rfl))
     clear HB HN bF;go_wp2_with fail;go_round
     case rel=>exact ⟨q+1,by go_num,by omega,ug.o⟩
     case measure=>simp [intOf];omega
    have HF:=af (HB.o (by rw [bF.o];rfl));clear HB HN bF;go_wp2_with fail;go_ret;exact ⟨ak HF.o.symm,dB.o⟩
  have HF:=af (show mV p=true by
   rw [DK, A3]; exact fun j hj => hall.o j (by (have : j < p.swap.length := by simpa using hj);omega))
  go_wp2_with fail;go_ret;exact ⟨ak HF.o.symm,dB.o⟩
theorem l9 (f:Nat) (b:Bool) (w:World) (hf:f<12):Calls prog 132 #[I_ f,.bool b] w fun e w'=>e=.returned (I_ (Kx.put f b))/\w=w':=by
 have wJ:(f:Int)<12:=by omega
 have HP:=af (show Kx.put f b=4*(f:Int)+if b then 3 else 1 from rfl)
 cases b
 ·go_enter func132,ntmps132;go_wp2_with fail;go_ret;exact ⟨aZ (by rw [HP.o];simp;try omega),rfl⟩
 go_enter func132,ntmps132;go_wp2_with fail;go_ret;exact ⟨aZ (by rw [HP.o];simp;try omega),rfl⟩
end Go.Proofs.YthcmmoibpgcgaaaGreatDoor
