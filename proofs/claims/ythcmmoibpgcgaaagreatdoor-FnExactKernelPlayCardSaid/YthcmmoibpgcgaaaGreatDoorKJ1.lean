/- KJ1, KJ2, joined. -/
import Derived.Test.YthcmmoibpgcgaaaGreatDoorKCb
set_option maxHeartbeats 4000000
set_option maxRecDepth 100000
set_option linter.all false
open List renaming nil_append->A1,replicate->A2,getElem?_eq_getElem->A3,length_take->A4
open Nat renaming le_trans->A5,zero_add->A6,add_zero->A9
open Option.some renaming injEq->A'
open ByteArray renaming empty->Ab
open Go.Value renaming slice->A0
open Go.Proofs.Tryz
namespace Go.Proofs.YthcmmoibpgcgaaaGreatDoor
open Go.RowKit Kx
variable {sz n base g cap j i:Nat}{w:World}{e:TypeId}
theorem RS.aaE {α:Type} {f:α->List Value} {c:Nat} {l:List α} (h:RS f sz w (A0 none n c) l):l=[]/\n=0/\c=0:=by
 rcases h.2 with ⟨rfl,a,cap,e,_,hn⟩ | ⟨b,off,cap,e,_⟩
 ·obtain ⟨rfl,rfl,rfl⟩:=Za e;clear e;exact ⟨rfl,rfl,hn rfl⟩
 simp at e
theorem BD (l:List aG) (v:Value) (w:World) (h:RS bH 3 w v l):Calls prog 162 #[v] w (yu bH 3 98 w l):=by
 obtain ⟨a,cap,rfl,_,_⟩:=h.val;have hl:=h.1;have hnil:=fun w=>Lib.run_eql_slice_nil (P:=prog) w 24 98 a l.length cap 0 0 underlying24
 cases a with
 | none =>
  obtain ⟨rfl,_,rfl⟩:=h.aaE;simp only [List.length_nil,Option.isNone_none] at hnil;clear h hl;go_enter func162,ntmps162;go_wp2_with fail;go_ret;exact ⟨_,rfl,OS.nil _ _,Below.refl _ _⟩
 | some ad =>
  simp only [Option.isNone_some] at hnil;have hs:=af (h.below (fZ.alloc aW (.cells #[] 98)));clear h;go_enter func162,ntmps162;go_wp2_with (at_builtin;refine aV qH rfl _ _ rfl w.heap.size _ [] rfl (OS.d_ aW) _ l rfl hs.o (by simp;omega) (by simp) ?_;intro v' w3 ho3 hg3 hx3;clear hx3;rw [A1] at ho3;have jJ:=af ho3;have ql:=af hg3;clear ho3 hg3);go_ret;exact ⟨_,rfl,jJ.o,Below.dN (fZ.alloc aW _) (OS.d_ (f:=bH) (sz:=3) aW) ql.o aW (by simp)⟩
theorem aap (l:List Kx.Cached) (v:Value) (w:World) (h:RS b_ 4 w v l):Calls prog 164 #[v] w (yu b_ 4 103 w l):=by
 obtain ⟨a,cap,rfl,_,_⟩:=h.val;have hl:=h.1;have hnil:=fun w=>Lib.run_eql_slice_nil (P:=prog) w 26 103 a l.length cap 0 0 underlying26
 cases a with
 | none =>
  obtain ⟨rfl,_,rfl⟩:=h.aaE;simp only [List.length_nil,Option.isNone_none] at hnil;clear h hl;go_enter func164,ntmps164;go_wp2_with fail;go_ret;exact ⟨_,rfl,OS.nil _ _,Below.refl _ _⟩
 | some ad =>
  simp only [Option.isNone_some] at hnil;have hs:=af (h.below (fZ.alloc aW (.cells #[] 103)));clear h;go_enter func164,ntmps164;go_wp2_with (at_builtin;refine aV gB rfl _ _ rfl w.heap.size _ [] rfl (OS.d_ aW) _ l rfl hs.o (by simp;omega) (by simp) ?_;intro v' w3 ho3 hg3 hx3;clear hx3;rw [A1] at ho3;have jJ:=af ho3;have ql:=af hg3;clear ho3 hg3);go_ret;exact ⟨_,rfl,jJ.o,Below.dN (fZ.alloc aW _) (OS.d_ (f:=b_) (sz:=4) aW) ql.o aW (by simp)⟩
theorem aay (l:List Kx.Str) (v:Value) (w:World) (h:RS df 1 w v l):Calls prog 165 #[v] w (yu df 1 9 w l):=by
 obtain ⟨a,cap,rfl,_,_⟩:=h.val;have hl:=h.1;have hnil:=fun w=>Lib.run_eql_slice_nil (P:=prog) w 84 9 a l.length cap 0 0 underlying84
 cases a with
 | none =>
  obtain ⟨rfl,_,rfl⟩:=h.aaE;simp only [List.length_nil,Option.isNone_none] at hnil;clear h hl;go_enter func165,ntmps165;go_wp2_with fail;go_ret;exact ⟨_,rfl,OS.nil _ _,Below.refl _ _⟩
 | some ad =>
  simp only [Option.isNone_some] at hnil;have hs:=af (h.below (fZ.alloc aW (.cells #[] 9)));clear h;go_enter func165,ntmps165;go_wp2_with (at_builtin;refine aV gX rfl _ _ rfl w.heap.size _ [] rfl (OS.d_ aW) _ l rfl hs.o (by simp;omega) (by simp) ?_;intro v' w3 ho3 hg3 hx3;clear hx3;rw [A1] at ho3;have jJ:=af ho3;have ql:=af hg3;clear ho3 hg3);go_ret;exact ⟨_,rfl,jJ.o,Below.dN (fZ.alloc aW _) (OS.d_ (f:=df) (sz:=1) aW) ql.o aW (by simp)⟩
theorem abP (l:List (qj×Int)) (v:Value) (w:World) (h:RS jG 2 w v l):Calls prog 163 #[v] w (yu jG 2 86 w l):=by
 obtain ⟨a,cap,rfl,_,_⟩:=h.val;have hl:=h.1;have hnil:=fun w=>Lib.run_eql_slice_nil (P:=prog) w 25 86 a l.length cap 0 0 underlying25
 cases a with
 | none =>
  obtain ⟨rfl,_,rfl⟩:=h.aaE;simp only [List.length_nil,Option.isNone_none] at hnil;clear h hl;go_enter func163,ntmps163;go_wp2_with fail;go_ret;exact ⟨_,rfl,OS.nil _ _,Below.refl _ _⟩
 | some ad =>
  simp only [Option.isNone_some] at hnil;have hs:=af (h.below (fZ.alloc aW (.cells #[] 86)));clear h;go_enter func163,ntmps163;go_wp2_with (at_builtin;refine aV OJ rfl _ _ rfl w.heap.size _ [] rfl (OS.d_ aW) _ l rfl hs.o (by simp;omega) (by simp) ?_;intro v' w3 ho3 hg3 hx3;clear hx3;rw [A1] at ho3;have jJ:=af ho3;have ql:=af hg3;clear ho3 hg3);go_ret;exact ⟨_,rfl,jJ.o,Below.dN (fZ.alloc aW _) (OS.d_ (f:=jG) (sz:=2) aW) ql.o aW (by simp)⟩
theorem abQ (l:List qj) (v:Value) (w:World) (h:RS rO 1 w v l):Calls prog 212 #[v] w (yu rO 1 29 w l):=by
 obtain ⟨a,cap,rfl,_,_⟩:=h.val;have hl:=h.1;have hnil:=fun w=>Lib.run_eql_slice_nil (P:=prog) w 23 29 a l.length cap 0 0 underlying23
 cases a with
 | none =>
  obtain ⟨rfl,_,rfl⟩:=h.aaE;simp only [List.length_nil,Option.isNone_none] at hnil;clear h hl;go_enter func212,ntmps212;go_wp2_with fail;go_ret;exact ⟨_,rfl,OS.nil _ _,Below.refl _ _⟩
 | some ad =>
  simp only [Option.isNone_some] at hnil;have hs:=af (h.below (fZ.alloc aW (.cells #[] 29)));clear h;go_enter func212,ntmps212;go_wp2_with (at_builtin;refine aV Kt rfl _ _ rfl w.heap.size _ [] rfl (OS.d_ aW) _ l rfl hs.o (by simp;omega) (by simp) ?_;intro v' w3 ho3 hg3 hx3;clear hx3;rw [A1] at ho3;have jJ:=af ho3;have ql:=af hg3;clear ho3 hg3);go_ret;exact ⟨_,rfl,jJ.o,Below.dN (fZ.alloc aW _) (OS.d_ (f:=rO) (sz:=1) aW) ql.o aW (by simp)⟩
theorem setCells_at:∀ (cs:List Value) (w:World) (g o:Nat),w.setCells g o cs=kP w g o cs
 | [],_,_,_=>rfl
 | c :: cs,w,g,o=>setCells_at cs (w.setCell ⟨g,o,none⟩ c) g (o+1)
theorem abk:∀ (cs xs:List Value) (o:Nat),xs.length<=o->setAt xs o cs=xs
 | [],_,_,_=>rfl
 | c :: cs,xs,o,h=>by
  have e:xs.set o c=xs:=List.set_eq_of_length_le h;show setAt (xs.set o c) (o+1) cs=xs;rw [e];exact abk cs xs (o+1) (by omega)
theorem OS.cut {α:Type} {f:α->List Value} [E:IV f sz] {l:List α} (h:OS f sz e w base (A0 (some ⟨g,0,none⟩) n cap) l) (hn:l.length=n) (i:Nat) (hi:i<=n) :
  OS f sz e w base (A0 (some ⟨g,0,none⟩) i cap) (l.take i):=by
 subst hn;have hlt:(l.take i).length=i:=by rw [A4];omega
 refine ⟨⟨by rw [flat_length E.len],?_⟩,by have:=h.2;omega⟩;rcases h.1.2 with ⟨h',_⟩ | ⟨g',cap',cur,h',hb,hg,hnc,hcm,hcs,ht⟩
 ·simp at h'
 simp only [Value.slice.injEq,A',Addr.mk.injEq,and_true,true_and] at h';obtain ⟨rfl,rfl⟩:=h';rw [hlt];refine .inr ⟨g,cap,cur,rfl,hb,hg,by omega,hcm,hcs,?_⟩;have e1:flat f l=flat f (l.take i) ++ flat f (l.drop i):=by rw [<-qM,List.take_append_drop]
 have e2:(flat f (l.take i)).length=i*sz:=by rw [flat_length E.len,hlt]
 have e3:i*sz<=l.length*sz:=Nat.mul_le_mul_right _ hi;rw [<-Nat.min_eq_left e3,<-List.take_take,ht,e1,<-e2];simp
theorem OS.behind {α:Type} {f:α->List Value} [E:IV f sz] {l:List α} (h:OS f sz e w base (A0 (some ⟨g,0,none⟩) n cap) l) (hn:l.length=n) (o:Nat) (ho:n*sz<=o) (cs:List Value) :
  OS f sz e (w.setCells g o cs) base (A0 (some ⟨g,0,none⟩) n cap) l/\w.grownBy (w.setCells g o cs) (some g):=by
 subst hn;rw [setCells_at];obtain ⟨h1,h2⟩:=zC cs (flat f l) o w h.1;rw [abk _ _ _ (by rw [flat_length E.len];exact ho)] at h1;exact ⟨⟨h1,h.2⟩,h2⟩
theorem aaz (w:World) (t e ty:TypeId) (z:Value) (cs:List Value) (ht:prog.underlying t=some (.slice e)) (hv:∀ w,(zeroValue e).run prog w=.ok z w) (b o n c:Nat) (hn:0<n) (hz:(Builtin.zeroCells z.cells n).toList=cs)
  (hc:∀ j,j<cs.length->(w.cell? ⟨b,o+j,none⟩).isSome=true) (hf:∀ j,j<cs.length->w.frozen? ⟨b,o+j,none⟩=false) (h1:∀ v ∈ cs,v.oneCell'=true) :
  (Builtin.clear_ #[t] ty #[A0 (some ⟨b,o,none⟩) n c]).run prog w=.ok (.tuple #[]) (w.setCells b o cs):=by
 have hst:=run_storeCells_cells (P:=prog) b o cs 0 w hc hf h1;simp only [A9] at hst;obtain ⟨m,rfl⟩:∃ m,n=m+1:=⟨n - 1,by omega⟩;simp [Builtin.clear_,run_underlying ht,hv,hz,hst]
theorem OS.KF {α:Type} {f:α->List Value} [E:IV f sz] {l:List α} (h:OS f sz e w base (A0 (some ⟨g,0,none⟩) n cap) l) (o:Nat) (ho:o<cap*sz) :
  (w.cell? ⟨g,o,none⟩).isSome=true/\w.frozen? ⟨g,o,none⟩=false:=by
 obtain rfl:=(RS.len h.rs rfl).1;refine ⟨?_,h.1.frozenAt _⟩;rcases h.1.2 with ⟨h',_⟩ | ⟨g',cap',cur,h',hb,hg,hnc,hcm,hcs,ht⟩
 ·simp at h'
 simp only [Value.slice.injEq,A',Addr.mk.injEq,and_true,true_and] at h';obtain ⟨rfl,rfl⟩:=h';have hlt:o<cur.size:=by omega
 simp [World.cell?,hg,hlt]
theorem aaA {α:Type} {f:α->List Value} [E:IV f sz] (z:α) (zc:Array Value) (hz:zc.toList=f z) (n:Nat):(Builtin.zeroCells zc n).toList=flat f (A2 n z):=by
 have hzs:zc.size=sz:=by rw [<-E.len z,<-hz];simp
 rw [<-jM E.len E.pos z zc hz n];unfold Builtin.zeroCells madeCells;rw [hzs]
structure acL {α:Type} (g:Nat) (lb:Array Value) (arg:α->Value) (p:α->Bool) (S:World->Prop):Prop where
 en:∀ args W,(callFunc g args).run prog W=.ok (.enter g args) W
 call:∀ x W,S W->Calls prog g (#[arg x] ++ lb) W fun e w'=>e=.returned (.bool (p x))/\Below W.heap.size W w'
 below:∀ W W',S W->Below W.heap.size W W'->S W'
theorem filter_none {α:Type} {p:α->Bool} {l:List α} (h:∀ j (hj:j<l.length),p l[j]=false):l.filter (fun x=>!p x)=l:=by
 rw [List.filter_eq_self];intro x hx;obtain ⟨j,hj,rfl⟩:=List.getElem_of_mem hx;simp [h j hj]
theorem aau {α:Type} {p:α->Bool} {l:List α} (hj:j<l.length):(l.take (j+1)).filter (fun x=>!p x)=(l.take j).filter (fun x=>!p x) ++ (if p l[j] then [] else [l[j]]):=by
 rw [List.take_add_one,A3 hj,List.filter_append]
 cases h:p l[j] <;> simp [h]
structure Cut {α:Type} (p:α->Bool) (l d:List α) (i j:Nat):Prop where
 len:d.length=l.length
 lt:i<j
 le:j<=l.length
 low:d.take i=(l.take j).filter (fun x=>!p x)
 high:∀ q (h:q<d.length) (h':q<l.length),j<=q->d[q]=l[q]
theorem Cut.start {α:Type} {p:α->Bool} {l:List α} {k:Nat} (hk:k<l.length) (hp:p l[k]=true) (hn:∀ j (hj:j<l.length),j<k->p l[j]=false):Cut p l l k (k+1):=by
 refine ⟨rfl,by omega,by omega,?_,fun q _ _ _=>rfl⟩
 rw [aau hk,hp];simp only [if_true,List.append_nil];refine (filter_none fun j hj=>?_).symm;have hj':j<k:=by rw [A4] at hj;omega
 rw [List.getElem_take];exact hn j (by omega) hj'
theorem Cut.skip {α:Type} {p:α->Bool} {l d:List α} (h:Cut p l d i j) (hj:j<l.length) (hp:p l[j]=true):Cut p l d i (j+1):=by
 refine ⟨h.len,by have:=h.lt;omega,by omega,?_,fun q h1 h2 h3=>h.high q h1 h2 (by omega)⟩
 rw [aau hj,hp,h.low];simp
theorem Cut.keep {α:Type} {p:α->Bool} {l d:List α} (h:Cut p l d i j) (hj:j<l.length) (hp:p l[j]=false):Cut p l (d.set i l[j]) (i+1) (j+1):=by
 have hi:=h.lt;have hl:=h.len;refine ⟨by simpa using hl,by omega,by omega,?_,fun q h1 h2 h3=>?_⟩
 ·rw [aau hj,hp,<-h.low,List.take_set];have hid:i<d.length:=by omega
  rw [List.take_add_one,A3 hid];simp only [Option.toList_some];rw [List.set_append_right _ _ (by rw [A4];omega)];have:i - (d.take i).length=0:=by rw [A4];omega
  rw [this];simp
 rw [List.getElem_set_ne (by omega)];exact h.high q (by simpa using h1) h2 (by omega)
theorem Cut.done {α:Type} {p:α->Bool} {l d:List α} (h:Cut p l d i l.length):d.take i=l.filter (fun x=>!p x):=by
 rw [h.low,List.take_length]
theorem Below.aby {α:Type} {f:α->List Value} {w' wr:World} {v:Value} {xs:List α} (h:Below base w wr) (ho:OS f sz e wr base v xs) (hg:wr.grownBy w' v.ownBlock) (hs:base<=wr.heap.size):Below base w w':=
 h.grown hg hs (fun k hk=>(ho.lt k hk).1)
theorem aat (g:Nat) (lb:Array Value) (p:Kx.Cached->Bool) (S:World->Prop) (hp:acL g lb iT p S) (l:List Kx.Cached) (v:Value) (w:World) (base:Nat) (hbase:base<=w.heap.size) (h:OS b_ 4 103 w base v l) (hS:S w) (hr:∀ W W',S W->W.grownBy W' v.ownBlock->S W') :
  Calls prog 300 #[v,.func (.func g) #[] lb] w fun e w'=>∃ u,e=.returned u/\OS b_ 4 103 w' base u (l.filter fun x=>!p x)/\Below base w w':=by
 have Hi:=af (zY g lb (fun k=>p (l.getD k Kx.Cached.zero)) l v w h.rs ⟨hp.en,fun k W hk hb=>hp.call _ W (hp.below _ _ hS hb)⟩)
 obtain ⟨eg,hcall,hbelow⟩:=hp;have Hc:=af hcall;have ND:=af hbelow;have H:=af h;have HS:=af hS;have Hr:=af hr;have aC:=af hbase;have hl:=h.2;clear h hS hr hcall hbelow hbase;obtain ⟨a,cap,rfl,hc1,hc2⟩:=RS.val H.o.rs;go_enter func300,ntmps300;go_wp2_with fail;refine Hi.o.mono ?_;rintro e w1 ⟨r,rfl,hf,hb⟩;have B1:=af (hb.mono aC.o);have O1:=af (H.o.below hb);have S1:=af (ND.o _ _ HS.o hb);have Z1:=af (A5 aC.o hb.size);clear hb Hi;rcases hf with ⟨k,hk,hpk,hn,rfl⟩ | ⟨hn,rfl⟩
 ·have hne:((k:Int)==-1)=false:=beq_eq_false_iff_ne.2 (by omega);obtain ⟨g0,cap0,e0,hg1,hg2⟩:=O1.o.shape (by omega);obtain ⟨rfl,_,rfl⟩:=Za e0;clear e0;have C1:=af (Cut.start (p:=p) hk (by simpa [hk] using hpk) (fun j hj hjk=>by have:=hn j hjk;simpa [hj] using this));clear hpk hn hg1 hg2;go_wp2_with fail;go_loopw [5,6,7] (fun s5 s6 s7 wr=>∃ (i j:Nat) (d:List Kx.Cached),s5=I_ i/\s6=I_ j/\TI (Cut p l d i j)/\TI (OS b_ 4 103 wr base (A0 (some ⟨g0,0,none⟩) l.length cap) d)/\TI (Below base w wr)/\TI (S wr)/\TI (base<=wr.heap.size)) (fun _ s6 _ _=>l.length - (intOf s6).toNat)
  case atStart=>exact ⟨k,k+1,l,rfl,by go_num,C1.o,O1.o,B1.o,S1.o,Z1.o⟩
  case round =>
   obtain ⟨i,j,d,rfl,rfl,hC,hO,hB,hSw,hs⟩:=hrel;have hij:=hC.o.lt;have hle:=hC.o.le;have hdl:=hC.o.len
   by_cases hlt:j<l.length
   ·have Q5:(j:Int)<(l.length:Int):=by omega
    have hiI:(i:Int)<(l.length:Int):=by omega
    obtain ⟨b,off,cap1,e,hbl,h1,h2,h3,h4⟩:=dZ.at hO.o.rs (k:=j) (by omega);obtain ⟨⟨rfl,rfl,_⟩,acY,rfl⟩:=Zb e;clear e acY;have hx:d.getD j Kx.Cached.zero=l[j]:=by rw [show d.getD j Kx.Cached.zero=d[j]'(by omega) from by simp [show j<d.length by omega]];exact hC.o.high j (by omega) hlt aW
    rw [hx] at h1 h2 h3 h4;clear hx hbl;obtain ⟨x,hxx⟩:=XP (l[j]);rw [hxx] at h1 h2 h3 h4;have Hx:=af hxx;clear hxx;have W0:=af ((Below.refl wr.heap.size wr).alloc aW (.cells #[I_ x.env,I_ x.page,I_ x.frame,.bool x.write] 103));have aav:=af (Hc.o x _ (ND.o _ _ hSw.o W0.o));unfold iT at aav;simp only [A6] at h1 h2 h3 h4
    cases hq:p x with
    | true =>
     rw [hq] at aav;have Hq:=af hq;clear hq;go_wp2_with (go_at_fn g;refine aav.o.mono ?_;rintro e w' ⟨rfl,hb'⟩;have kR:=af (W0.o.trans (hb'.mono W0.o.size));clear hb');go_roundw
     case rel=>exact ⟨i,j+1,d,rfl,by go_num,hC.o.skip hlt (by rw [Hx.o];exact Hq.o),hO.o.below kR.o,hB.o.trans (kR.o.mono hs.o),ND.o _ _ hSw.o kR.o,A5 hs.o kR.o.size⟩
     case measure=>simp [intOf];omega
    | false =>
     rw [hq] at aav;have Hq:=af hq;clear hq;go_wp2_with (go_at_fn g;refine aav.o.mono ?_;rintro e w' ⟨rfl,hb'⟩;have kR:=af (W0.o.trans (hb'.mono W0.o.size));have X':BX w' wr.heap.size 103 [I_ x.env,I_ x.page,I_ x.frame,.bool x.write]:=BX.below (BX.new wr 103 #[I_ x.env,I_ x.page,I_ x.frame,.bool x.write]) hb';have q0:=X'.c4;have O':=af (hO.o.below kR.o);obtain ⟨⟨z0,hz0⟩,hf0⟩:=O'.o.bP i (by omega) 0 (by decide);obtain ⟨⟨z1,hz1⟩,hf1⟩:=O'.o.bP i (by omega) 1 (by decide);obtain ⟨⟨z2,hz2⟩,hf2⟩:=O'.o.bP i (by omega) 2 (by decide);obtain ⟨⟨z3,hz3⟩,hf3⟩:=O'.o.bP i (by omega) 3 (by decide);rw [A9] at hz0 hf0;clear hb');go_roundw
     case rel =>
      obtain ⟨hst,hgr⟩:=O'.o.jy hdl i x (by omega);exact ⟨i+1,j+1,d.set i x,by go_num,by go_num,by have:=hC.o.keep hlt (by rw [Hx.o];exact Hq.o);rw [Hx.o] at this;exact this,hst,Below.aby (hB.o.trans (kR.o.mono hs.o)) O'.o hgr (A5 hs.o kR.o.size),Hr.o _ _ (ND.o _ _ hSw.o kR.o) hgr,A5 hs.o (A5 kR.o.size hgr.size)⟩
     case measure=>simp [intOf];omega
   obtain rfl:j=l.length:=by omega
   have hcl:=fun ty=>aaz wr 26 103 ty (.agg #[I_ 0,I_ 0,I_ 0,.bool false]) (flat b_ (A2 (l.length - i) Kx.Cached.zero)) underlying26 Tryz.zeroValue103 g0 (i*4) (l.length - i) (cap - i) (by omega) (aaA (f:=b_) Kx.Cached.zero (Value.cells (.agg #[I_ 0,I_ 0,I_ 0,.bool false])) rfl _)
    (fun q hq=>(hO.o.KF (i*4+q) (by rw [flat_length IV.len,List.length_replicate] at hq;omega)).1) (fun q hq=>(hO.o.KF (i*4+q) (by rw [flat_length IV.len,List.length_replicate] at hq;omega)).2)
    (fun u hu=>by obtain ⟨y,_,hy⟩:=List.mem_flatMap.1 hu;exact IV.one y u hy)
   have hiI:(i:Int)<=(l.length:Int):=by omega
   have acI:(l.length:Int)<=(cap:Int):=by omega
   go_wp2;go_ret;obtain ⟨h5,h6⟩:=(hO.o.cut hdl i (by omega)).behind (by rw [A4];omega) (i*4) (by omega) (flat b_ (A2 (l.length - i) Kx.Cached.zero));rw [hC.o.done] at h5;exact ⟨_,rfl,h5,Below.aby hB.o (hO.o.cut hdl i (by omega)) h6 hs.o⟩
 have hne:((-1:Int)==-1)=true:=rfl;go_wp2_with fail;go_ret;rw [filter_none fun j hj=>by have:=hn j hj;simpa [hj] using this]
 exact ⟨_,rfl,O1.o,B1.o⟩
theorem abx (g:Nat) (lb:Array Value) (p:Kx.Str->Bool) (S:World->Prop) (hp:acL g lb Value.string p S) (l:List Kx.Str) (v:Value) (w:World) (base:Nat) (hbase:base<=w.heap.size) (h:OS df 1 9 w base v l) (hS:S w) (hr:∀ W W',S W->W.grownBy W' v.ownBlock->S W') :
  Calls prog 304 #[v,.func (.func g) #[] lb] w fun e w'=>∃ u,e=.returned u/\OS df 1 9 w' base u (l.filter fun x=>!p x)/\Below base w w':=by
 have Hi:=af (FZ g lb (fun k=>p (l.getD k Ab)) l v w h.rs ⟨hp.en,fun k W hk hb=>hp.call _ W (hp.below _ _ hS hb)⟩)
 obtain ⟨eg,hcall,hbelow⟩:=hp;have Hc:=af hcall;have ND:=af hbelow;have H:=af h;have HS:=af hS;have Hr:=af hr;have aC:=af hbase;have hl:=h.2;clear h hS hr hcall hbelow hbase;obtain ⟨a,cap,rfl,hc1,hc2⟩:=RS.val H.o.rs;go_enter func304,ntmps304;go_wp2_with fail;refine Hi.o.mono ?_;rintro e w1 ⟨r,rfl,hf,hb⟩;have B1:=af (hb.mono aC.o);have O1:=af (H.o.below hb);have S1:=af (ND.o _ _ HS.o hb);have Z1:=af (A5 aC.o hb.size);clear hb Hi;rcases hf with ⟨k,hk,hpk,hn,rfl⟩ | ⟨hn,rfl⟩
 ·have hne:((k:Int)==-1)=false:=beq_eq_false_iff_ne.2 (by omega);obtain ⟨g0,cap0,e0,hg1,hg2⟩:=O1.o.shape (by omega);obtain ⟨rfl,_,rfl⟩:=Za e0;clear e0;have C1:=af (Cut.start (p:=p) hk (by simpa [hk] using hpk) (fun j hj hjk=>by have:=hn j hjk;simpa [hj] using this));clear hpk hn hg1 hg2;go_wp2_with fail;go_loopw [5,6,7] (fun s5 s6 s7 wr=>∃ (i j:Nat) (d:List Kx.Str),s5=I_ i/\s6=I_ j/\TI (Cut p l d i j)/\TI (OS df 1 9 wr base (A0 (some ⟨g0,0,none⟩) l.length cap) d)/\TI (Below base w wr)/\TI (S wr)/\TI (base<=wr.heap.size)) (fun _ s6 _ _=>l.length - (intOf s6).toNat)
  case atStart=>exact ⟨k,k+1,l,rfl,by go_num,C1.o,O1.o,B1.o,S1.o,Z1.o⟩
  case round =>
   obtain ⟨i,j,d,rfl,rfl,hC,hO,hB,hSw,hs⟩:=hrel;have hij:=hC.o.lt;have hle:=hC.o.le;have hdl:=hC.o.len
   by_cases hlt:j<l.length
   ·have Q5:(j:Int)<(l.length:Int):=by omega
    have hiI:(i:Int)<(l.length:Int):=by omega
    obtain ⟨b,off,cap1,e,hbl,h1⟩:=dK.at2 hO.o.rs (k:=j) (by omega);obtain ⟨⟨rfl,rfl,_⟩,acY,rfl⟩:=Zb e;clear e acY;have hx:d.getD j Ab=l[j]:=by rw [show d.getD j Ab=d[j]'(by omega) from by simp [show j<d.length by omega]];exact hC.o.high j (by omega) hlt aW
    rw [hx] at h1;clear hx hbl;obtain ⟨x,hxx⟩:=XP (l[j]);rw [hxx] at h1;have Hx:=af hxx;clear hxx;have W0:=af (Below.refl wr.heap.size wr);have aav:=af (Hc.o x _ (ND.o _ _ hSw.o W0.o));unfold Value.string at aav;simp only [A6] at h1
    cases hq:p x with
    | true =>
     rw [hq] at aav;have Hq:=af hq;clear hq;go_wp2_with (go_at_fn g;refine aav.o.mono ?_;rintro e w' ⟨rfl,hb'⟩;have kR:=af (W0.o.trans (hb'.mono W0.o.size));clear hb');go_roundw
     case rel=>exact ⟨i,j+1,d,rfl,by go_num,hC.o.skip hlt (by rw [Hx.o];exact Hq.o),hO.o.below kR.o,hB.o.trans (kR.o.mono hs.o),ND.o _ _ hSw.o kR.o,A5 hs.o kR.o.size⟩
     case measure=>simp [intOf];omega
    | false =>
     rw [hq] at aav;have Hq:=af hq;clear hq;go_wp2_with (go_at_fn g;refine aav.o.mono ?_;rintro e w' ⟨rfl,hb'⟩;have kR:=af (W0.o.trans (hb'.mono W0.o.size));have O':=af (hO.o.below kR.o);obtain ⟨⟨z0,hz0⟩,hf0⟩:=O'.o.bP i (by omega) 0 (by decide);rw [A9,Nat.mul_one] at hz0 hf0;clear hb');go_roundw
     case rel =>
      obtain ⟨hst,hgr⟩:=O'.o.jy hdl i x (by omega);rw [Nat.mul_one] at hst hgr;exact ⟨i+1,j+1,d.set i x,by go_num,by go_num,by have:=hC.o.keep hlt (by rw [Hx.o];exact Hq.o);rw [Hx.o] at this;exact this,hst,Below.aby (hB.o.trans (kR.o.mono hs.o)) O'.o hgr (A5 hs.o kR.o.size),Hr.o _ _ (ND.o _ _ hSw.o kR.o) hgr,A5 hs.o (A5 kR.o.size hgr.size)⟩
     case measure=>simp [intOf];omega
   obtain rfl:j=l.length:=by omega
   have hcl:=fun ty=>aaz wr 84 9 ty (.string ⟨#[]⟩) (flat df (A2 (l.length - i) Ab)) underlying84 Tryz.zeroValue9 g0 (i) (l.length - i) (cap - i) (by omega) (aaA (f:=df) Ab (Value.cells (.string ⟨#[]⟩)) rfl _)
    (fun q hq=>(hO.o.KF (i+q) (by rw [flat_length IV.len,List.length_replicate] at hq;omega)).1) (fun q hq=>(hO.o.KF (i+q) (by rw [flat_length IV.len,List.length_replicate] at hq;omega)).2)
    (fun u hu=>by obtain ⟨y,_,hy⟩:=List.mem_flatMap.1 hu;exact IV.one y u hy)
   have hiI:(i:Int)<=(l.length:Int):=by omega
   have acI:(l.length:Int)<=(cap:Int):=by omega
   go_wp2;go_ret;obtain ⟨h5,h6⟩:=(hO.o.cut hdl i (by omega)).behind (by rw [A4];omega) (i) (by omega) (flat df (A2 (l.length - i) Ab));rw [hC.o.done] at h5;exact ⟨_,rfl,h5,Below.aby hB.o (hO.o.cut hdl i (by omega)) h6 hs.o⟩
 have hne:((-1:Int)==-1)=true:=rfl;go_wp2_with fail;go_ret;rw [filter_none fun j hj=>by have:=hn j hj;simpa [hj] using this]
 exact ⟨_,rfl,O1.o,B1.o⟩
end Go.Proofs.YthcmmoibpgcgaaaGreatDoor
