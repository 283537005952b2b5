/- KJ3, KJ4, joined. -/
import Derived.Test.YthcmmoibpgcgaaaGreatDoorKIa
import Derived.Test.YthcmmoibpgcgaaaGreatDoorKIb
import Derived.Test.YthcmmoibpgcgaaaGreatDoorKJ1
import Derived.Test.YthcmmoibpgcgaaaGreatDoorWalkG
set_option maxHeartbeats 4000000
set_option maxRecDepth 100000
set_option linter.all false
open List renaming getElem_of_mem->A1,getElem_set_ne->A2,getElem_set_self->A3
open Nat renaming le_trans->A4,not_lt_zero->A5,add_zero->A6
open Go.Value renaming slice->A0
open Go.Proofs.Tryz
namespace Go.Proofs.YthcmmoibpgcgaaaGreatDoor
open Go.RowKit Kx
theorem abn (x:aG) (w:World):Calls prog 318 #[kN x] w fun e w'=>e=.returned (.bool (x.kind==0))/\Below w.heap.size w w':=by
 obtain ⟨k,g,r⟩:=x;unfold kN;go_enter func318,ntmps318
 by_cases hk:k=0
 ·subst hk;go_wp2_with fail;go_ret;exact ⟨rfl,fZ.alloc aW _⟩
 have hb:(k==0)=false:=beq_eq_false_iff_ne.2 hk;go_wp2_with fail;go_ret;exact ⟨ak hb.symm,fZ.alloc aW _⟩
theorem aaR (l:List aG) (v:Value) (w:World) (h:bV w v l):Calls prog 296 #[v] w fun e w'=>∃ r,e=.returned (I_ r)/\r=uX l/\Below w.heap.size w w':=by
 have HC:=af (Ei 318 #[] (fun k=>(Kx.inf l k).kind==0) l v w h ⟨Proofs.enters_of func318 (by kernel_rfl) rfl,fun k W _ _=>by simpa using abn (Kx.inf l k) W⟩)
 clear h;go_enter func296,ntmps296;go_wp2_with fail;refine HC.o.mono ?_;rintro e w1 ⟨r,rfl,hf,hb⟩;have Hf:=af hf;have Hb:=af hb;clear hf hb;go_wp2_with fail;go_ret;refine ⟨_,rfl,?_,Hb.o⟩;unfold uX Kx.free;rcases Hf.o with ⟨k,hk,hp,hn,rfl⟩ | ⟨hn,rfl⟩
 ·have e:l.findIdx? (fun x=>x.kind==0)=some k:=by
   rw [List.findIdx?_eq_some_iff_getElem];refine ⟨hk,by simpa [Kx.inf,hk] using hp,fun j hj=>?_⟩
   have hj':j<l.length:=by omega
   have:=hn j hj
   simpa [Kx.inf,hj'] using this
  rw [e]
 have e:l.findIdx? (fun x=>x.kind==0)=none:=by
  rw [List.findIdx?_eq_none_iff];intro x hx;obtain ⟨j,hj,rfl⟩:=A1 hx;have:=hn j hj;simpa [Kx.inf,hj] using this
 rw [e]
theorem aaF (l:List aG) (s:Kx.Str) (v:Value) (w:World) (h:bV w v l) (hs:jo l) (hv:bC l=true) (hr:bT s=true) (hss:s.size<=9223372036854775807) (hf:Kx.free l=none) :
  Calls prog 262 #[v,.string s] w fun e w'=>e=.returned (.tuple #[A0 none 0 0,I_ 0,.bool false])/\Below w.heap.size w w':=by
 have H:=af h;have Zy:=af (fun W (hb:Below w.heap.size w W)=>aaR l v W (RS.below h hb))
 have HC2:=af (uY l v w h hs);have TG:=af (fun W=>oM s W hss);have Hv:=af hv;have Hr:=af hr;have Hf:=af (show uX l=-1 by unfold uX;rw [hf]);clear h hs hv hr hss hf;go_enter func262,ntmps262;go_wp2_with fail;refine HC2.o.mono ?_;rintro e w2 ⟨rfl,hb⟩;rw [Hv.o];have B2:=af hb;clear hb;go_wp2_with fail;refine (TG.o w2).mono ?_;rintro e w3 ⟨rfl,hb⟩;rw [Hr.o];have B3:=af (B2.o.trans (hb.mono B2.o.size));clear hb;go_wp2_with fail;refine (Zy.o _ B3.o).mono ?_;rintro e w4 ⟨r,rfl,rfl,hb⟩;rw [Hf.o];have B4:=af (B3.o.trans (hb.mono B3.o.size));clear hb;go_wp2_with fail;go_ret3;exact ⟨rfl,B4.o⟩
theorem aaS (l:List aG) (s:Kx.Str) (f:Nat) (v:Value) (w:World) (h:bV w v l) (hs:jo l) (hv:bC l=true) (hr:bT s=true) (hss:s.size<=9223372036854775807) (hf:Kx.free l=some f) (hl12:l.length=12) :
  Calls prog 262 #[v,.string s] w (yH bH 3 98 w (l.set f ⟨1,s,0⟩) [I_ f,.bool true]):=by
 obtain ⟨hfl,hfi⟩:=zD hf;have H:=af h;have Zy:=af (fun W (hb:Below w.heap.size w W)=>aaR l v W (RS.below h hb))
 have HC2:=af (uY l v w h hs);have TG:=af (fun W=>oM s W hss);have HC4:=af (fun W (hb:Below w.heap.size w W)=>BD l v W (RS.below h hb))
 have Hfi:=af hfi;have Hv:=af hv;have Hr:=af hr;have Hl:=af hl12;have zW:=af (show f<12 by omega);clear h hs hv hr hss hf hfi hfl hl12;go_enter func262,ntmps262;go_wp2_with fail;refine HC2.o.mono ?_;rintro e w2 ⟨rfl,hb⟩;rw [Hv.o];have B2:=af hb;clear hb;go_wp2_with fail;refine (TG.o w2).mono ?_;rintro e w3 ⟨rfl,hb⟩;rw [Hr.o];have B3:=af (B2.o.trans (hb.mono B2.o.size));clear hb;go_wp2_with fail;refine (Zy.o _ B3.o).mono ?_;rintro e w4 ⟨r,rfl,rfl,hb⟩;rw [Hfi.o];have B4:=af (B3.o.trans (hb.mono B3.o.size));clear hb;have hneg:decide ((f:Int)<0)=false:=by simp
 go_wp2_with fail;refine (HC4.o _ B4.o).mono ?_;rintro e w5 ⟨u,rfl,ho,hb⟩;have B5:=af (B4.o.trans (hb.mono B4.o.size));have kH:=af ho;clear hb ho;obtain ⟨g,cap4,rfl,hg1,hg2⟩:=kH.o.shape (by rw [Hl.o];decide);have hgw:w.heap.size<=g:=A4 B4.o.size hg1;obtain ⟨hst,hgr⟩:=kH.o.jy rfl f ⟨1,s,0⟩ (by rw [Hl.o];exact zW.o);have uh:=af hst;obtain ⟨⟨z0,hz0⟩,hf0⟩:=kH.o.bP f (by rw [Hl.o];exact zW.o) 0 (by decide);obtain ⟨⟨z1,hz1⟩,hf1⟩:=kH.o.bP f (by rw [Hl.o];exact zW.o) 1 (by decide);obtain ⟨⟨z2,hz2⟩,hf2⟩:=kH.o.bP f (by rw [Hl.o];exact zW.o) 2 (by decide);rw [A6] at hz0 hf0;have wJ:(f:Int)<(l.length:Int):=by have:=zW.o;have:=Hl.o;omega
 have Hb5:=af (iK hgw (bH ⟨1,s,0⟩) (f*3) _ B5.o);clear hst hgr Zy HC2 TG HC4 hg1 hg2 hgw;go_wp2_with fail;go_ret3;refine ⟨_,rfl,?_,Hb5.o⟩;exact uh.o.mono B4.o.size
theorem aaH (l:List aG) (f:Nat) (v:Value) (w:World) (h:bV w v l) (hs:jo l) (hv:bC l=true) (hf:f<12) (hl12:l.length=12) (hk:(Kx.inf l f).kind=1) (hr:¬ (Kx.inf l f).refs=0) :
  Calls prog 264 #[v,I_ f] w fun e w'=>e=.returned (.tuple #[A0 none 0 0,.bool false])/\Below w.heap.size w w':=by
 have HC2:=af (uY l _ w h hs);have Hv:=af hv;have jR:=af (show Kx.bK f 0 11=true by rw [Kx.ay];omega);have hlt:f<l.length:=by omega
 have wJ:(f:Int)<(l.length:Int):=by omega
 have hre:((Kx.inf l f).refs != 0)=true:=by simpa using hr
 obtain ⟨b,off,cap,rfl,hbl,c0,_,c2⟩:=bV.at h hlt;have ND:=af hbl;rw [hk] at c0;generalize (Kx.inf l f).refs=r at c2 hre;clear h hs hv hf hl12 hk hr hbl;go_enter func264,ntmps264;go_wp2_with fail;refine HC2.o.mono ?_;rintro e w2 ⟨rfl,hb⟩;rw [Hv.o];have B2:=af hb;clear hb;have d0:=(B2.o.cell (p:=⟨b,off+f*3,none⟩) ND.o).trans c0;have d2:=(B2.o.cell (p:=⟨b,off+f*3+2,none⟩) ND.o).trans c2;clear c0 c2;go_wp2_with fail;refine (jO _ _).mono ?_;rintro e w3 ⟨rfl,rfl⟩;rw [jR.o];go_wp2_with fail;go_ret2;exact ⟨rfl,B2.o⟩
theorem aaU (l:List aG) (f:Nat) (v:Value) (w:World) (h:bV w v l) (hs:jo l) (hv:bC l=true) (hf:f<12) (hl12:l.length=12) (hk:(Kx.inf l f).kind=1) (hr:(Kx.inf l f).refs=0) :
  Calls prog 264 #[v,I_ f] w (yH bH 3 98 w (l.set f aG.zero) [.bool true]):=by
 have HC2:=af (uY l _ w h hs);have HC4:=af (fun W (hb:Below w.heap.size w W)=>BD l v W (RS.below h hb))
 have Hv:=af hv;have jR:=af (show Kx.bK f 0 11=true by rw [Kx.ay];omega);have hlt:f<l.length:=by omega
 have Hl:=af hl12;have Js:=af hlt;have wJ:(f:Int)<(l.length:Int):=by omega
 obtain ⟨b,off,cap,rfl,hbl,c0,_,c2⟩:=bV.at h hlt;have ND:=af hbl;rw [hk] at c0;rw [hr] at c2;clear h hs hv hf hl12 hk hr hbl hlt;go_enter func264,ntmps264;go_wp2_with fail;refine HC2.o.mono ?_;rintro e w2 ⟨rfl,hb⟩;rw [Hv.o];have B2:=af hb;clear hb;have d0:=(B2.o.cell (p:=⟨b,off+f*3,none⟩) ND.o).trans c0;have d2:=(B2.o.cell (p:=⟨b,off+f*3+2,none⟩) ND.o).trans c2;clear c0 c2;go_wp2_with fail;refine (jO _ _).mono ?_;rintro e w3 ⟨rfl,rfl⟩;rw [jR.o];go_wp2_with fail;refine (HC4.o _ B2.o).mono ?_;rintro e w5 ⟨u,rfl,ho,hb⟩;have B5:=af (B2.o.trans (hb.mono B2.o.size));have kH:=af ho;clear hb ho d0 d2;obtain ⟨g,cap4,rfl,hg1,hg2⟩:=kH.o.shape (by rw [Hl.o];decide);have hgw:w.heap.size<=g:=A4 B2.o.size hg1;obtain ⟨hst,hgr⟩:=kH.o.jy rfl f aG.zero Js.o;have uh:=af hst
 obtain ⟨⟨z0,hz0⟩,hf0⟩:=kH.o.bP f Js.o 0 (by decide);obtain ⟨⟨z1,hz1⟩,hf1⟩:=kH.o.bP f Js.o 1 (by decide);obtain ⟨⟨z2,hz2⟩,hf2⟩:=kH.o.bP f Js.o 2 (by decide);rw [A6] at hz0 hf0;have Hb5:=af (iK hgw (bH aG.zero) (f*3) _ B5.o);clear hst hgr HC2 HC4 hg1 hg2 hgw;go_wp2_with fail;go_ret2;exact ⟨_,rfl,uh.o.mono B2.o.size,Hb5.o⟩
theorem abp (x:Kx.Cached) (e:Int) (b1:Nat) (w:World) (h1:BX w b1 3 [I_ e]) :
  Calls prog 301 #[iT x,.pointer (some ⟨b1,0,none⟩)] w fun en w'=>en=.returned (.bool (x.env==e))/\Below w.heap.size w w':=by
 obtain ⟨w0,hw0⟩:=XP (w.alloc (.cells #[I_ x.env,I_ x.page,I_ x.frame,.bool x.write] 103));have B0:=af (show Below w.heap.size w w0 from hw0 ▸ (Below.refl w.heap.size w).alloc aW _);obtain ⟨c0,c1,c2,c3,_⟩:=(show kK w0 w.heap.size (I_ x.env) (I_ x.page) (I_ x.frame) (.bool x.write) from hw0 ▸ kK.new w _ _ _ _ _);have k0:w0.cell? ⟨b1,0,none⟩=some (I_ e):=(h1.below B0.o).cell 0;clear h1;unfold iT;go_enter func301,ntmps301;go_wp2_with fail;go_ret;exact ⟨by rfl,B0.o⟩
theorem abG (c:List Kx.Cached) (e:Int) (v:Value) (w:World) (h:dZ w v c) (hc:dA c=true):Calls prog 269 #[v,I_ e] w (yu b_ 4 103 w (fP c e)):=by
 obtain ⟨w1,hw1⟩:=XP (w.alloc (.cells #[I_ e] 3));have X1:=af (show BX w1 w.heap.size 3 [I_ e] from hw1 ▸ BX.new w _ _);have B1:=af (show Below w.heap.size w w1 from hw1 ▸ fZ.alloc aW _);have Z1:=af (show w.heap.size<w1.heap.size from by rw [<-hw1];simp);have Zy:=af (uZ c v w1 (RS.below h B1.o));have HC2:=af (fun W (hb:Below w.heap.size w W)=>aap c v W (RS.below h hb))
 have Hc:=af hc;clear h hc;go_enter func269,ntmps269;go_wp2_with fail;refine Zy.o.mono ?_;rintro en w2 ⟨rfl,hb⟩;rw [Hc.o];replace X1:=af (X1.o.below hb);have B2:=af (B1.o.trans (hb.mono B1.o.size));have Z2:=af (Nat.lt_of_lt_of_le Z1.o hb.size);clear hb;go_wp2_with fail;refine (HC2.o _ B2.o).mono ?_;rintro en w3 ⟨u,rfl,ho,hb⟩;replace X1:=af (X1.o.below hb);have B3:=af (B2.o.trans (hb.mono B2.o.size));have HO:=af ho;have HD:=af (aat 301 #[.pointer (some ⟨w.heap.size,0,none⟩)] (fun x=>x.env==e) (fun W=>BX W w.heap.size 3 [I_ e])
  ⟨Proofs.enters_of func301 (by kernel_rfl) rfl,fun x W hX=>abp x e w.heap.size W hX,fun W W' hX hb=>hX.below hb⟩
  c u w3 w2.heap.size hb.size HO.o X1.o (fun W W' hX hg=>(hg.block _ hX.lt (fun he=>by have:=(HO.o.lt _ he.symm).1;have:=Z2.o;omega)).trans hX))
 clear hb ho;go_wp2_with fail;refine HD.o.mono ?_;rintro en w4 ⟨u4,rfl,iV,hb4⟩;have HO4:=af iV;have B4:=af (B3.o.trans (hb4.mono B2.o.size));clear iV hb4;go_wp2_with fail;go_ret;exact ⟨_,rfl,HO4.o.mono B2.o.size,B4.o⟩
structure OPa {γ δ:Type} (f:γ->List Value) (sz:Nat) (e:TypeId) (f':δ->List Value) (e':TypeId) (pr:γ->qj) (key:γ->Int) (w:World) (base hi:Nat) (u:Value) (xs:List (List δ)) (src ss:List γ) (i:Nat):Prop where
 len:ss.length=src.length
 ln:xs.length=src.length
 o:OS f sz e w base u ss
 ub:UB u hi
 own:∀ j (h:j<ss.length) (h':j<xs.length),j<i->OS f' 1 e' w base (dM (pr ss[j])) xs[j]/\UB (dM (pr ss[j])) hi/\Sep (dM (pr ss[j])) u
 sep:∀ j q (h:j<ss.length) (h':q<ss.length),j<q->q<i->Sep (dM (pr ss[q])) (dM (pr ss[j]))
 rest:∀ j (h:j<ss.length) (h':j<src.length),i<=j->ss[j]=src[j]
 kp:∀ j (h:j<ss.length) (h':j<src.length),key ss[j]=key src[j]
section
variable {γ δ:Type} {f:γ->List Value} {sz:Nat} {e:TypeId} {f':δ->List Value} {e':TypeId} {pr:γ->qj} {key:γ->Int} {w w':World} {base hi:Nat} {u:Value} {xs:List (List δ)} {src ss:List γ} {i:Nat}
theorem OPa.start (h:OS f sz e w base u src) (hl:xs.length=src.length):OPa f sz e f' e' pr key w base w.heap.size u xs src src 0:=
 ⟨rfl,hl,h,h.ub,fun j _ _ hj=>absurd hj (A5 _),fun j q _ _ _ hj=>absurd hj (A5 _),fun _ _ _ _=>rfl,fun _ _ _=>rfl⟩
theorem OPa.below (h:OPa f sz e f' e' pr key w base hi u xs src ss i) (hb:Below w.heap.size w w'):OPa f sz e f' e' pr key w' base hi u xs src ss i:=
 ⟨h.len,h.ln,h.o.below hb,h.ub,fun j a b c=>⟨(h.own j a b c).1.below hb,(h.own j a b c).2⟩,h.sep,h.rest,h.kp⟩
theorem OPa.up (h:OPa f sz e f' e' pr key w base hi u xs src ss i) {hi':Nat} (hh:hi<=hi'):OPa f sz e f' e' pr key w base hi' u xs src ss i:=
 ⟨h.len,h.ln,h.o,h.ub.mono hh,fun j a b c=>⟨(h.own j a b c).1,(h.own j a b c).2.1.mono hh,(h.own j a b c).2.2⟩,h.sep,h.rest,h.kp⟩
theorem OPa.step [E:IV f sz] {upd:γ->qj->γ} (hpu:∀ y s,pr (upd y s)=s) (hku:∀ y s,key (upd y s)=key y) (hfl:∀ (ss:List γ) (i:Nat) (s:qj) (h:i<ss.length),flat f (ss.set i (upd ss[i] s))=(flat f ss).set (i*sz) (dM s)) (hne:e'≠e)
  (h:OPa f sz e f' e' pr key w base hi u xs src ss i) (Dt:base<=hi) (hhi:hi<=w.heap.size) (hlt:i<src.length) (s:qj) (hn:OS f' 1 e' w hi (dM s) (xs[i]'(by rw [h.ln];exact hlt))) :
  ∃ b cap,u=A0 (some ⟨b,0,none⟩) src.length cap/\base<=b/\b<w.heap.size/\(∃ z,w.cell? ⟨b,i*sz,none⟩=some z)/\w.frozen? ⟨b,i*sz,none⟩=false /\
   ∃ ss',OPa f sz e f' e' pr key (w.setCell ⟨b,i*sz,none⟩ (dM s)) base w.heap.size u xs src ss' (i+1):=by
 have hls:=h.len;have hlx:=h.ln;have his:i<ss.length:=by omega
 obtain ⟨b,cap,rfl,hb1,hb2⟩:=h.o.shape (by omega);obtain ⟨cs,hcs⟩:=h.o.kind (g:=b) rfl;obtain ⟨hz,hfz⟩:=h.o.bP i his 0 E.pos;rw [A6] at hz hfz;have hg:=aK w b (i*sz) (dM s);have hst:=(h.o.1.stored (i*sz) (dM s)).1;have hub:=hn.ub;refine ⟨b,cap,by rw [hls],hb1,hb2,hz,hfz,ss.set i (upd ss[i] s),by simpa using hls,hlx,⟨?_,by simpa using h.o.2⟩,h.ub.mono hhi,fun j h1 h2 h3=>?_,fun j q h1 h2 h3 h4=>?_,fun j h1 h2 h3=>?_,fun j h1 h2=>?_⟩
 ·rw [hfl ss i s his,List.length_set];exact hst
 ·have h1':j<ss.length:=by simpa using h1
  by_cases ej:j=i
  ·subst ej;rw [A3,hpu];exact ⟨(hn.dh hg hcs hne).mono Dt,hub,qy hn h.ub⟩
  rw [A2 (Ne.symm ej)];obtain ⟨q1,q2,q3⟩:=h.own j h1' h2 (by omega);exact ⟨q1.dh hg hcs hne,q2.mono hhi,q3⟩
 ·have h1':j<ss.length:=by simpa using h1
  have h2':q<ss.length:=by simpa using h2
  by_cases eq:q=i
  ·subst eq;rw [A3,A2 (by omega),hpu];exact qy hn (h.own j h1' (by omega) h3).2.1
  rw [A2 (by omega),A2 (by omega)];exact h.sep j q h1' h2' h3 (by omega)
 ·rw [A2 (by omega)];exact h.rest j (by simpa using h1) h2 (by omega)
 have h1':j<ss.length:=by simpa using h1
 by_cases ej:j=i
 ·subst ej;rw [A3,hku];exact h.kp j h1' h2
 rw [A2 (Ne.symm ej)];exact h.kp j h1' h2
end
theorem ab5 (ss:List qj) (i:Nat) (s:qj) (h:i<ss.length):flat rO (ss.set i s)=(flat rO ss).set (i*1) (dM s):=by
 rw [oz (sz:=1) (fun _=>rfl) ss i _ h];rfl
theorem ab6 (ss:List (qj×Int)) (i:Nat) (s:qj) (h:i<ss.length):flat jG (ss.set i (s,ss[i].2))=(flat jG ss).set (i*2) (dM s):=by
 have e1:=flat_get (f:=jG) (sz:=2) (fun _=>rfl) ss i 1 h (by decide);rw [oz (sz:=2) (fun _=>rfl) ss i _ h];show (((flat jG ss).set (i*2) (dM s)).set (i*2+1) (I_ ss[i].2))=_;rw [lM (show ((flat jG ss).set (i*2) (dM s))[i*2+1]?=some (I_ ss[i].2) by rw [List.getElem?_set_ne (by omega)];exact e1)]
def aa8 (v:Value):qj:=match v with | A0 a n c=>⟨a,n,c⟩ | _=>⟨none,0,0⟩
theorem RS.acM {α β:Type} {f:α->List Value} {g:β->List Value} {sz:Nat} {w:World} {v:Value} {l:List α} (h:RS f sz w v l) (m:α->β) (hm:∀ x ∈ l,f x=g (m x)):RS g sz w v (l.map m):=by
 obtain ⟨h1,h2⟩:=h;refine ⟨by simpa using h1,?_⟩;rcases h2 with ⟨rfl,a,cap,rfl,hc,hn⟩ | ⟨b,off,cap,rfl,h3,h4,hb,hc⟩
 ·exact .inl ⟨rfl,a,cap,rfl,hc,hn⟩
 refine .inr ⟨b,off,cap,by simp,by simpa using h3,h4,hb,fun k hk j u hu=>?_⟩
 have hk':k<l.length:=by simpa using hk
 refine hc k hk' j u ?_;rw [hm _ (List.getElem_mem hk')];simpa using hu
theorem RM.slc {w:World} {v:Value} {m:List (List Int)} (h:RM w v m):∃ ss:List qj,ss.length=m.length/\RS rO 1 w v ss/\∀ i (h:i<ss.length) (h':i<m.length),RI w (dM ss[i]) m[i]:=by
 obtain ⟨vs,hl,ho,hr⟩:=h;have hv:∀ i (h:i<vs.length) (h':i<m.length),dM (aa8 vs[i])=vs[i]:=fun i h h'=>by
  obtain ⟨a,c,e⟩:=(hr i h h').val;rw [e];rfl
 refine ⟨vs.map aa8,by simpa using hl,ho.acM aa8 fun x hx=>?_,fun i h h'=>?_⟩
 ·obtain ⟨i,hi,rfl⟩:=A1 hx;show [vs[i]]=[dM (aa8 vs[i])];rw [hv i hi (by omega)]
 have hi:i<vs.length:=by simpa using h
 rw [List.getElem_map,hv i hi h'];exact hr i hi h'
theorem uo.slc {w:World} {v:Value} {es:List Kx.Env} (h:uo w v es):∃ ss:List (qj×Int),ss.length=es.length/\RS jG 2 w v ss/\∀ i (h:i<ss.length) (h':i<es.length),ss[i].2=es[i].root/\dK w (dM ss[i].1) es[i].aB:=by
 obtain ⟨ps,hl,ho,hr⟩:=h;have hv:∀ i (h:i<ps.length) (h':i<es.length),dM (aa8 ps[i].1)=ps[i].1:=fun i h h'=>by
  obtain ⟨a,c,e,_⟩:=RS.val (hr i h h').2;rw [e];rfl
 refine ⟨ps.map fun x=>(aa8 x.1,x.2),by simpa using hl,ho.acM _ fun x hx=>?_,fun i h h'=>?_⟩
 ·obtain ⟨i,hi,rfl⟩:=A1 hx;show [ps[i].1,_]=[dM (aa8 ps[i].1),_];rw [hv i hi (by omega)]
 have hi:i<ps.length:=by simpa using h
 simp only [List.getElem_map];rw [hv i hi h'];exact hr i hi h'
theorem OPa.om {w:World} {base hi:Nat} {u:Value} {m:List (List Int)} {src ss:List qj} (h:OPa rO 1 29 iR 3 id (fun _=>0) w base hi u m src ss src.length):OM w base hi u m:=
 ⟨ss,by rw [h.len,h.ln],⟨h.o,h.ub⟩,fun i h1 h2=>⟨(h.own i h1 h2 (by rw [<-h.len];exact h1)).1.oi,(h.own i h1 h2 (by rw [<-h.len];exact h1)).2⟩,fun i j h1 h2 h3=>h.sep i j h1 h2 h3 (by rw [<-h.len];exact h2)⟩
theorem OPa.oe {w:World} {base hi:Nat} {u:Value} {es:List Kx.Env} {src ss:List (qj×Int)} (h:OPa jG 2 86 df 9 Prod.fst Prod.snd w base hi u (es.map (·.aB)) src ss src.length) (hr:∀ i (h:i<src.length) (h':i<es.length),src[i].2=es[i].root):OE w base hi u es:=by
 have hl:=h.len;have hn:=h.ln;rw [List.length_map] at hn;refine ⟨ss,by omega,⟨h.o,h.ub⟩,fun i h1 h2=>?_,fun i j h1 h2 h3=>h.sep i j h1 h2 h3 (by omega)⟩
 obtain ⟨q1,q2⟩:=h.own i h1 (by simpa using h2) (by omega);rw [List.getElem_map] at q1;exact ⟨(h.kp i h1 (by omega)).trans (hr i (by omega) h2),q1,q2⟩
theorem abR (m:List (List Int)) (v:Value) (w:World) (h:RM w v m):Calls prog 161 #[v] w fun e w'=>∃ u,e=.returned u/\OM w' w.heap.size w'.heap.size u m/\Below w.heap.size w w':=by
 obtain ⟨src,hl,hs,hr⟩:=h.slc;have HC:=af (abQ src v w hs);have Hr:=af hr;have Hl:=af hl;clear h hs hr hl;go_enter func161,ntmps161;go_wp2_with fail;refine HC.o.mono ?_;rintro en w1 ⟨u,rfl,ho,hb⟩;have B1:=af hb;have P1:=af ((OPa.start (f':=iR) (e':=3) (pr:=id) (key:=fun _=>0) (xs:=m) ho Hl.o.symm));obtain ⟨a,cap,rfl,hc1,hc2⟩:=RS.val ho.rs;have hln:=ho.2;have Z1:=af hb.size;clear ho hb HC;go_wp2_with fail;go_loopw [4,5,10] (fun _ _ i wr=>∃ (j:Nat) (ss:List qj),i=I_ j/\j<=src.length/\TI (OPa rO 1 29 iR 3 id (fun _=>0) wr w.heap.size wr.heap.size (A0 a src.length cap) m src ss j)/\TI (Below w.heap.size w wr)) (fun _ _ i _=>src.length - (intOf i).toNat)
 case atStart=>exact ⟨0,src,rfl,Nat.zero_le _,P1.o,B1.o⟩
 case round =>
  obtain ⟨j,ss,rfl,hj,hP,hB⟩:=hrel
  by_cases hlt:j<src.length
  ·have Q5:(j:Int)<(src.length:Int):=by omega
   have hjs:j<ss.length:=by rw [hP.o.len];exact hlt
   obtain ⟨b,cap2,e0,hg1,hg2⟩:=hP.o.o.shape (by rw [hP.o.len];omega);obtain ⟨rfl,hq0,rfl⟩:=Za e0;clear e0;obtain ⟨b',off',cap1,ev,hbl,hcell⟩:=hP.o.o.rs.at hjs;obtain ⟨⟨rfl,rfl,_⟩,hsl,rfl⟩:=Zb ev;clear ev hsl hq0;have h0:=hcell 0 _ rfl;rw [hP.o.rest j hjs hlt aW,Nat.mul_one,A6,Nat.zero_add] at h0;have hjm:j<m.length:=by rw [hP.o.ln];exact hlt
   have HR:=af ((Hr.o j hlt hjm).below hB.o);have HC2:=af (acz m[j] _ wr HR.o);have hBs:=af hB.o.size;generalize src[j]=sj at h0 HC2;clear hcell hbl hg1 hg2 HR;go_wp2_with fail;refine HC2.o.mono ?_;rintro en w2 ⟨u,rfl,ho,hb⟩;obtain ⟨a2,c2,rfl⟩:=ho.ri.val;obtain ⟨b',cap',e2,hgb,hblt,⟨z,hz⟩,hfz,ss',hP'⟩:=(hP.o.below hb).step (upd:=fun _ s=>s) (fun _ _=>rfl) (fun _ _=>rfl) ab5 (by decide) hBs.o hb.size hlt ⟨a2,_,c2⟩ ho.os;obtain ⟨⟨rfl,_⟩,_,rfl⟩:=Zb e2;clear e2;rw [Nat.mul_one] at hz hfz hP';have HP':=af hP';have B2:=af ((hB.o.trans (hb.mono hBs.o)).setCell (p:=⟨b,j,none⟩) hgb (A0 a2 m[j].length c2));clear hP hB ho hb hP' hgb hblt HC2;unfold dM at HP';go_wp2_with fail;go_roundw
   case rel=>exact ⟨j+1,ss',by go_num,by omega,HP'.o.up (by simp [World.setCell]),B2.o⟩
   case measure=>simp [intOf];omega
  have:j=src.length:=by omega
  subst this;go_wp2_with fail;go_ret;exact ⟨_,rfl,hP.o.om,hB.o⟩
end Go.Proofs.YthcmmoibpgcgaaaGreatDoor
