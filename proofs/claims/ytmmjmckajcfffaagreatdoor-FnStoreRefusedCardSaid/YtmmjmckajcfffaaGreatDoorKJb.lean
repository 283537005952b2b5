/- KJ7, KJ6, KJ8, KJ9, KJ10, joined. -/
import Derived.Deep.RegionLaw
import Derived.Test.YtmmjmckajcfffaaGreatDoorKIa
import Derived.Test.YtmmjmckajcfffaaGreatDoorKIb
import Derived.Test.YtmmjmckajcfffaaGreatDoorKJ2
import Derived.Test.YtmmjmckajcfffaaGreatDoorShelf2
set_option maxHeartbeats 4000000
set_option maxRecDepth 100000
set_option linter.all false
open List renaming take_succ_eq_append_getElem->A1,length_append->A2,getElem_mem->A3,nil_append->A4,length_filter_le->A5,length_take->A6
open Nat renaming le_trans->A9,not_lt_zero->A',lt_of_lt_of_le->Ab,zero_add->Al,add_zero->An
open Bool renaming and_eq_true->Ao
open Option.some renaming injEq->As
open Go.Value renaming slice->A0
open Go.Proofs.Tryz
namespace Go.Proofs.YtmmjmckajcfffaaGreatDoor
open Go.RowKit Kx
variable {w:World}{g base sz n cap:Nat}{um ui ue uc:Value}
theorem abf {B:Nat} {W:World} (h:Below B w W) (n:Nat):Below B w (W.drewN n):=⟨h.os,h.tape,h.output,h.size,h.block⟩
def adx (G:Nat) (c:Kx.Call):List Value:=.pointer (some ⟨G,0,none⟩) :: Lc c
def dO (G:Nat) (c:Kx.Call):Value:=.agg #[.pointer (some ⟨G,0,none⟩),I_ c.kind,I_ c.env,I_ c.a,I_ c.b,I_ c.c,.string c.name]
theorem BX.c7 {t:Nat} {x0 x1 x2 x3 x4 x5 x6:Value} (h:BX w g t [x0,x1,x2,x3,x4,x5,x6]):w.cell? ⟨g,0,none⟩=some x0/\w.cell? ⟨g,1,none⟩=some x1/\w.cell? ⟨g,2,none⟩=some x2/\w.cell? ⟨g,3,none⟩=some x3/\w.cell? ⟨g,4,none⟩=some x4/\w.cell? ⟨g,5,none⟩=some x5/\w.cell? ⟨g,6,none⟩=some x6:=
 ⟨h.cell 0,h.cell 1,h.cell 2,h.cell 3,h.cell 4,h.cell 5,h.cell 6⟩
theorem XF {G:Nat} (hG:BX w G 28 [um,ui,ue,uc]) (bQ JF ca cb cc:Int) (bg:Kx.Str) :
  ∃ w1,w.alloc (.cells #[.pointer (some ⟨G,0,none⟩),I_ bQ,I_ JF,I_ ca,I_ cb,I_ cc,.string bg] 109)=w1/\TI (BX w1 w.heap.size 109 [.pointer (some ⟨G,0,none⟩),I_ bQ,I_ JF,I_ ca,I_ cb,I_ cc,.string bg]) /\
   TI (BX w1 G 28 [um,ui,ue,uc])/\TI (Below w.heap.size w w1)/\w.heap.size<w1.heap.size:=
 ⟨_,rfl,BX.new _ _ _,hG.below (fZ.alloc aW _),fZ.alloc aW _,by simp⟩
theorem aew {W V w0:World} {g1 g2 t1 t2:Nat} {l1 l2:List Value} {k:Kx.Kernel} (D:Below W.heap.size W V) (X1:TI (BX W g1 t1 l1)) (XG:TI (BX W g2 t2 l2)) (HO:TI (KO W base um ui ue uc k)) (B1:TI (Below w0.heap.size w0 W)):TI (BX V g1 t1 l1)/\TI (BX V g2 t2 l2)/\TI (KO V base um ui ue uc k)/\TI (Below w0.heap.size w0 V):=⟨X1.o.below D,XG.o.below D,HO.o.below D,B1.o.trans (D.mono B1.o.size)⟩
theorem wo (k:Kx.Kernel) (c:Kx.Call) (e:Nat) (G b off cap:Nat) (um ui uc:Value) (w:World) (hG:BX w G 28 [um,ui,A0 (some ⟨b,off,none⟩) k.ah.length cap,uc]) (hce:c.env=e) (he:e<k.ah.length) :
  Calls prog 181 #[dO G c] w fun en w'=>en=.returned (.pointer (some ⟨b,off+e*2,none⟩))/\Below w.heap.size w w':=by
 obtain ⟨bQ,JF,ca,cb,cc,bg⟩:=c;simp only at hce;subst hce;obtain ⟨w1,hw1,X1,XG,B1,s1⟩:=XF hG bQ e ca cb cc bg;have kQ:(e:Int)<(k.ah.length:Int):=by omega
 have p0:=XG.o.c4;have c0:=X1.o.c7;clear hG X1 XG he s1;unfold dO;go_enter func181,ntmps181;go_wp2_with fail;go_quiet (fail);go_wp2_with fail;go_ret;exact ⟨rfl,abf B1.o _⟩
theorem zn (k:Kx.Kernel) (c:Kx.Call) (e:Nat) (g:Kx.Str) (G:Nat) (um ui ue uc:Value) (w:World) (hG:BX w G 28 [um,ui,ue,uc]) (hE:uo w ue k.ah) (hce:c.env=e) (he:e<k.ah.length) :
  Calls prog 137 #[dO G c,.string g] w fun en w'=>en=.returned (.bool (jQ k c.env g))/\Below w.heap.size w w':=by
 obtain ⟨bQ,JF,ca,cb,cc,bg⟩:=c;simp only at hce;subst hce;obtain ⟨b,off,cap,u,rfl,hbl,q0,q1,hr⟩:=hE.at he;obtain ⟨w1,hw1,X1,XG,B1,s1⟩:=XF hG bQ e ca cb cc bg;have HC:=af (wo k ⟨bQ,e,ca,cb,cc,bg⟩ e G b off cap um ui uc w1 XG.o rfl he);have HM:=af (fun W (hb:Below w.heap.size w W)=>AP (au k.ah e).aB g u W (RS.below hr hb))
 have Hq:=af q0;have ND:=af hbl;have c0:=X1.o.c7;clear hG hE hr q0 q1 X1 XG he hbl s1;unfold dO;unfold dO at HC;go_enter func137,ntmps137;go_wp2_with fail;refine HC.o.mono ?_;rintro en w2 ⟨rfl,hb⟩;have B2:=af (B1.o.trans (hb.mono B1.o.size));have p0:=(B2.o.cell (p:=⟨b,off+e*2,none⟩) ND.o).trans Hq.o;clear hb c0;go_wp2_with fail;refine (HM.o w2 B2.o).mono ?_;rintro en w3 ⟨rfl,hb⟩;have B3:=af (B2.o.trans (hb.mono B2.o.size));clear hb p0;go_wp2_with fail;go_ret;exact ⟨rfl,B3.o⟩
theorem abw (x y:Kx.Cached) (b1:Nat) (w:World) (h1:BX w b1 60 [I_ x.env,I_ x.page,I_ x.frame,.bool x.write]) :
  Calls prog 238 #[iT y,.pointer (some ⟨b1,0,none⟩)] w fun en w'=>en=.returned (.bool (y.env==x.env&&y.page==x.page))/\Below w.heap.size w w':=by
 obtain ⟨w0,hw0⟩:=XP (w.alloc (.cells #[I_ y.env,I_ y.page,I_ y.frame,.bool y.write] 60));have B0:=af (show Below w.heap.size w w0 from hw0 ▸ (Below.refl w.heap.size w).alloc aW _);obtain ⟨c0,c1,c2,c3,_⟩:=(show kK w0 w.heap.size (I_ y.env) (I_ y.page) (I_ y.frame) (.bool y.write) from hw0 ▸ kK.new w _ _ _ _ _);obtain ⟨k0,k1,k2,k3⟩:=(h1.below B0.o).c4;clear h1;unfold iT
 cases he:y.env==x.env with
 | false =>
  go_enter func238,ntmps238;go_wp2_with fail;go_ret;exact ⟨by rfl,B0.o⟩
 | true =>
  go_enter func238,ntmps238;go_wp2_with fail;go_ret;exact ⟨by rfl,B0.o⟩
theorem GL (c:List Kx.Cached) (x:Kx.Cached):qp c x=(if (c.filter fun y=>!(y.env==x.env&&y.page==x.page)).length=4 then (c.filter fun y=>!(y.env==x.env&&y.page==x.page)).drop 1 else (c.filter fun y=>!(y.env==x.env&&y.page==x.page))) ++ [x]\/4<c.length:=by
 by_cases h:4<c.length
 ·exact .inr h
 left
 have e:(fun y:Kx.Cached=>y.env != x.env||y.page != x.page)=fun y=>!(y.env==x.env&&y.page==x.page):=by
  funext y;simp [bne,Bool.not_and]
 have hle:=A5 (fun y:Kx.Cached=>!(y.env==x.env&&y.page==x.page)) c
 unfold qp;rw [e]
 by_cases h4:(c.filter fun y=>!(y.env==x.env&&y.page==x.page)).length=4
 ·rw [if_pos h4];simp only [];rw [if_pos (by omega)]
 rw [if_neg h4];simp only [];rw [if_neg (by omega)]
theorem abb (r s:Kx.Str) (b1:Nat) (w:World) (h1:BX w b1 9 [.string s]) :
  Calls prog 64 #[.string r,.pointer (some ⟨b1,0,none⟩)] w fun en w'=>en=.returned (.bool (Kx.pre s r))/\Below w.heap.size w w':=by
 have k1:=h1.cell 0;have HC:=af (D6 s r w);clear h1;go_enter func64,ntmps64;go_wp2_with fail;refine HC.o.mono ?_;rintro e w' ⟨rfl,rfl⟩;go_wp2_with fail;go_ret;exact ⟨rfl,Below.refl _ _⟩
theorem abl (l:List Kx.Str) (s:Kx.Str) (v:Value) (w:World) (h:dK w v l) (hsz:∀ x ∈ l,x.size<=9223372036854775807) (hv:aS l=true) (hr:bT s=true) (hss:s.size<=9223372036854775807) :
  Calls prog 28 #[v,.string s] w (yu df 1 9 w (jm l s)):=by
 obtain ⟨w1,hw1⟩:=XP (w.alloc (.cells #[.string s] 9));have X1:=af (show BX w1 w.heap.size 9 [.string s] from hw1 ▸ BX.new w _ _);have B1:=af (show Below w.heap.size w w1 from hw1 ▸ fZ.alloc aW _);have Z1:=af (show w.heap.size<w1.heap.size from by rw [<-hw1];simp);have Zy:=af (eG l v w1 (RS.below h B1.o) hsz);have HC2:=af (fun W (hb:Below w.heap.size w W)=>aay l v W (RS.below h hb))
 have TG:=af (fun W=>oM s W hss);have Hv:=af hv;have Hr:=af hr;obtain ⟨p0,_⟩:w1.cell? ⟨w.heap.size,0,none⟩=some (.string s)/\True:=⟨X1.o.cell 0,trivial⟩;clear h hsz hv hr hss;go_enter func28,ntmps28;go_wp2_with fail;refine Zy.o.mono ?_;rintro en w2 ⟨rfl,hb⟩;rw [Hv.o];replace X1:=af (X1.o.below hb);have B2:=af (B1.o.trans (hb.mono B1.o.size));have Z2:=af (Ab Z1.o hb.size);clear hb p0;have p0:w2.cell? ⟨w.heap.size,0,none⟩=some (.string s):=X1.o.cell 0;go_wp2_with fail;refine (TG.o w2).mono ?_;rintro en w3 ⟨rfl,hb⟩;rw [Hr.o];replace X1:=af (X1.o.below hb);have B3:=af (B2.o.trans (hb.mono B2.o.size));have Z3:=af (Ab Z2.o hb.size);clear hb p0;go_wp2_with fail;refine (HC2.o _ B3.o).mono ?_;rintro en w4 ⟨u,rfl,ho,hb⟩
 replace X1:=af (X1.o.below hb);have B4:=af (B3.o.trans (hb.mono B3.o.size));have HO:=af ho;have HD:=af (abx 64 #[.pointer (some ⟨w.heap.size,0,none⟩)] (fun x=>Kx.pre s x) (fun W=>BX W w.heap.size 9 [.string s])
  ⟨Proofs.enters_of func64 (by kernel_rfl) rfl,fun x W hX=>abb x s w.heap.size W hX,fun W W' hX hb=>hX.below hb⟩
  l u w4 w3.heap.size hb.size HO.o X1.o (fun W W' hX hg=>(hg.block _ hX.lt (fun he=>by have:=(HO.o.lt _ he.symm).1;have:=Z3.o;omega)).trans hX))
 clear hb ho;go_wp2_with fail;refine HD.o.mono ?_;rintro en w5 ⟨u4,rfl,iV,hb4⟩;have HO4:=af iV;have B5:=af (B4.o.trans (hb4.mono B3.o.size));clear iV hb4;go_wp2_with fail;go_ret;exact ⟨_,rfl,HO4.o.mono B3.o.size,B5.o⟩
theorem OS.drop {α:Type} {f:α->List Value} [E:IV f sz] {e:TypeId} {l:List α} (h:OS f sz e w base (A0 (some ⟨g,0,none⟩) n cap) l) (hn:l.length=n) (i:Nat) (hi:i<=n) :
  ∀ j u,(flat f (l.drop i))[j]?=some u->w.cell? ⟨g,i*sz+j,none⟩=some u:=by
 subst hn;intro j u hu;have e1:flat f l=flat f (l.take i) ++ flat f (l.drop i):=by rw [<-qM,List.take_append_drop]
 have e2:(flat f (l.take i)).length=i*sz:=by rw [flat_length E.len,A6];congr 1;omega
 have:=h.1.cells (g:=g) rfl (i*sz+j) u (by rw [e1,List.getElem?_append_right (by omega),e2,Nat.add_sub_cancel_left];exact hu)
 rw [Addr.add_lit,Al] at this;exact this
theorem UU:∀ (cs xs:List Value) (o:Nat),o+cs.length<=xs.length->setAt xs o cs=xs.take o ++ cs ++ xs.drop (o+cs.length)
 | [],xs,o,_=>by
  show xs=_
  simp
 | c :: cs,xs,o,h=>by
  have hl:o+1+cs.length<=xs.length:=by simp at h;omega
  have e1:(xs.set o c).take (o+1)=xs.take o ++ [c]:=by
   rw [A1 (by simp;omega),List.getElem_set_self,List.take_set_of_le (Nat.le_refl o)]
  have e2:(xs.set o c).drop (o+1+cs.length)=xs.drop (o+1+cs.length):=List.drop_set_of_lt (by omega);show setAt (xs.set o c) (o+1) cs=_;rw [UU cs (xs.set o c) (o+1) (by simpa using hl),e1,e2,List.length_cons,show o+(cs.length+1)=o+1+cs.length by omega];simp only [List.append_assoc,List.singleton_append,List.cons_append,A4]
theorem OS.first {α:Type} {f:α->List Value} [E:IV f sz] {e:TypeId} {l:List α} (h:OS f sz e w base (A0 (some ⟨g,0,none⟩) n cap) l) (hn:l.length=n) (ys:List α) (hy:ys.length<=n) :
  OS f sz e (w.setCells g 0 (flat f ys)) base (A0 (some ⟨g,0,none⟩) n cap) (ys ++ l.drop ys.length)/\w.grownBy (w.setCells g 0 (flat f ys)) (some g):=by
 subst hn;rw [setCells_at];have hly:(flat f ys).length=ys.length*sz:=flat_length E.len ys;have hll:(flat f l).length=l.length*sz:=flat_length E.len l;have hle:ys.length*sz<=l.length*sz:=Nat.mul_le_mul_right _ hy;obtain ⟨h1,h2⟩:=zC (flat f ys) (flat f l) 0 w h.1;have e1:(flat f l).drop (ys.length*sz)=flat f (l.drop ys.length):=by
  have e3:flat f l=flat f (l.take ys.length) ++ flat f (l.drop ys.length):=by rw [<-qM,List.take_append_drop]
  have e2:(flat f (l.take ys.length)).length=ys.length*sz:=by rw [flat_length E.len,A6,Nat.min_eq_left hy]
  rw [e3,<-e2,List.drop_left]
 rw [UU _ _ _ (by omega),List.take_zero,A4,Al,hly,e1,<-qM] at h1;have hl2:(ys ++ l.drop ys.length).length=l.length:=by rw [A2,List.length_drop];omega
 refine ⟨⟨?_,by rw [hl2];exact h.2⟩,h2⟩;rw [hl2];exact h1
theorem abd (l:List Kx.Cached) (v:Value) (w:World) (base:Nat) (hbase:base<=w.heap.size) (h:OS b_ 4 60 w base v l) (h4:l.length=4) :
  Calls prog 239 #[v,I_ 0,I_ 1] w fun e w'=>∃ u,e=.returned u/\OS b_ 4 60 w' base u (l.drop 1)/\Below base w w':=by
 obtain ⟨g,cap,rfl,hg1,hg2⟩:=h.shape (by omega);obtain ⟨_,hcap,hcm⟩:=RS.len h.rs rfl;obtain ⟨i0,b,h22,hi,hz0,hz1,hz2,hb,hzc⟩:=gB;rw [h4] at hcap h ⊢;obtain ⟨ys,hys⟩:=XP (l.drop 1);have hy3:ys.length=3:=by rw [<-hys,List.length_drop,h4]
 have dG:(flat b_ ys).length=12:=by rw [flat_length IV.len,hy3]
 have hd:OS b_ 4 60 w.drew base (A0 (some ⟨g,0,none⟩) 4 cap) l:=h.drewN 1;have hdr:=h.drop h4 1 (by decide);rw [hys] at hdr ⊢;obtain ⟨W1,hW1⟩:=XP (w.drew.setCells g (0+0*4) (flat b_ ys));have hsrc:=af (show ∀ t u,(flat b_ ys)[t]?=some u->w.drew.cell? ((⟨g,4,none⟩:Addr).add t)=some u from fun t u hu=>by rw [Addr.add_lit];exact hdr t u hu)
 have s3:=af (show ∀ t,t<(flat b_ ys).length->(w.drew.cell? ⟨g,0+0*4+t,none⟩).isSome=true/\w.drew.frozen? ⟨g,0+0*4+t,none⟩=false from fun t ht=>hd.KF _ (by omega))
 have s1:=af (show (flat b_ ys).length=3*4 from dG);have s2:=af (show ∀ u ∈ flat b_ ys,u.oneCell'=true from fun u hu=>by obtain ⟨y,_,hy⟩:=List.mem_flatMap.1 hu;exact IV.one y u hy);obtain ⟨q4,r4⟩:=hd.first h4 ys (by omega)
 have hW2:w.drew.setCells g 0 (flat b_ ys)=W1:=hW1;rw [hW2] at q4 r4;have q5:OS b_ 4 60 W1 base (A0 (some ⟨g,0,none⟩) 3 cap) ys:=by
  have:=q4.cut (by rw [A2,List.length_drop];omega) 3 (by decide)
  rwa [List.take_left' hy3] at this
 obtain ⟨zs,hzs⟩:=XP (flat b_ (List.replicate 1 Kx.Cached.zero));have YJ:zs.length=4:=by rw [<-hzs];rfl
 have hcl:=fun ty=>aaz W1 26 60 ty (.agg #[I_ 0,I_ 0,I_ 0,.bool false]) zs underlying26 Tryz.zeroValue60 g 12 1 (cap - 3) (by omega) (by rw [<-hzs];exact aaA (f:=b_) Kx.Cached.zero (Value.cells (.agg #[I_ 0,I_ 0,I_ 0,.bool false])) rfl _)
  (fun q hq=>(q4.KF (12+q) (by omega)).1) (fun q hq=>(q4.KF (12+q) (by omega)).2)
  (fun u hu=>by rw [<-hzs] at hu;obtain ⟨y,_,hy⟩:=List.mem_flatMap.1 hu;exact IV.one y u hy)
 have B1:=af (Below.aby (Below.bz (Below.refl base w)) hd r4 hbase);have Q5:=af q5;have HW:=af hW1;have Zb:=af (show base<=W1.heap.size from A9 hbase r4.size);have Hy3:=af hy3;have acI:(4:Int)<=(cap:Int):=by omega
 have hc1:¬ cap=1:=by omega
 have hc3:¬ cap=3:=by omega
 have hcm':cap<=9223372036854775807:=hcm;clear h hd q4 q5 r4 hW1 hW2 hcap hcm h4 hg1 hg2 hbase hdr hys hy3 dG hzs YJ;go_enter func239,ntmps239;go_wp2_with fail;go_region_law (refine step_append_room rfl (.tmp 22) (.tmp 25) 26 rfl 60 i0 4 h22 hi hz1 g 0 0 cap (by simp [Act.eval,Act.put]) ⟨g,4,none⟩ 3 (cap - 1) (flat b_ ys) (by simp [Act.eval,Act.put]) s1.o hsrc.o s2.o (by omega) s3.o ?_;rw [HW.o]);go_wp2;go_ret;obtain ⟨h5,h6⟩:=Q5.o.behind Hy3.o 12 (by decide) zs;exact ⟨_,rfl,h5,Below.aby B1.o Q5.o h6 Zb.o⟩
theorem Gq (c:List Kx.Cached) (x:Kx.Cached) (v:Value) (w:World) (h:dZ w v c) (hc:dA c=true) (hx:dn x=true) (hl:c.length<=4) :
  Calls prog 189 #[v,iT x] w (yH b_ 4 60 w (qp c x) [.bool true]):=by
 obtain ⟨w1,hw1⟩:=XP (w.alloc (.cells #[I_ x.env,I_ x.page,I_ x.frame,.bool x.write] 60));have X1:=af (show BX w1 w.heap.size 60 [I_ x.env,I_ x.page,I_ x.frame,.bool x.write] from hw1 ▸ BX.new w _ _);have B1:=af (show Below w.heap.size w w1 from hw1 ▸ fZ.alloc aW _);have Z1:=af (show w.heap.size<w1.heap.size from by rw [<-hw1];simp);have Zy:=af (uZ c v w1 (RS.below h B1.o));have HC2:=af (fun W (hb:Below w.heap.size w W)=>aap c v W (RS.below h hb))
 have TG:=af (fun W=>tX x W);have Hc:=af hc;have Hx:=af hx;have Hl:=af hl;have HE:=af (GL c x);obtain ⟨o,ho⟩:∃ o,(c.filter fun y=>!(y.env==x.env&&y.page==x.page))=o:=⟨_,rfl⟩
 have Hol:=af (show o.length<=4 by rw [<-ho];exact A9 (A5 _ _) hl);rw [ho] at HE;have Ho:=af ho;clear h hc hx hl ho;unfold iT at TG ⊢;go_enter func189,ntmps189;go_wp2_with fail;refine Zy.o.mono ?_;rintro en w2 ⟨rfl,hb⟩;rw [Hc.o];replace X1:=af (X1.o.below hb);have B2:=af (B1.o.trans (hb.mono B1.o.size));have Z2:=af (Ab Z1.o hb.size);clear hb;have q0:=X1.o.c4;go_wp2_with fail;refine (TG.o w2).mono ?_;rintro en w3 ⟨rfl,hb⟩;rw [Hx.o];replace X1:=af (X1.o.below hb);have B3:=af (B2.o.trans (hb.mono B2.o.size));have Z3:=af (Ab Z2.o hb.size);clear hb q0;go_wp2_with fail;refine (HC2.o _ B3.o).mono ?_;rintro en w4 ⟨u,rfl,hO,hb⟩;replace X1:=af (X1.o.below hb);have B4:=af (B3.o.trans (hb.mono B3.o.size));have HO:=af hO;have S4:=af hb.size
 have HD:=af (aat 238 #[.pointer (some ⟨w.heap.size,0,none⟩)] (fun y=>y.env==x.env&&y.page==x.page) (fun W=>BX W w.heap.size 60 [I_ x.env,I_ x.page,I_ x.frame,.bool x.write])
  ⟨Proofs.enters_of func238 (by kernel_rfl) rfl,fun y W hX=>abw x y w.heap.size W hX,fun W W' hX hb=>hX.below hb⟩
  c u w4 w3.heap.size hb.size HO.o X1.o (fun W W' hX hg=>(hg.block _ hX.lt (fun he=>by have:=(HO.o.lt _ he.symm).1;have:=Z3.o;omega)).trans hX))
 rw [Ho.o] at HD;clear hb hO;go_wp2_with fail;refine HD.o.mono ?_;rintro en w5 ⟨u5,rfl,hO5,hb5⟩;have HO5:=af hO5;have B5:=af (B4.o.trans (hb5.mono B3.o.size));have S5:=af (A9 S4.o hb5.size);replace X1:=af (show BX w5 w.heap.size 60 _ from (hb5.block _ Z3.o).trans X1.o);obtain ⟨a5,c5,rfl,_,_⟩:=RS.val hO5.rs;have hol:o.length<=4:=Hol.o;clear hO5 hb5 HD HO
 by_cases h4:o.length=4
 ·have UM:((o.length:Int)==4)=true:=by rw [h4];rfl
  have HF:=af (abd o _ w5 w3.heap.size S5.o HO5.o h4);have H4:=af h4;clear h4;go_wp2_with fail;refine HF.o.mono ?_;rintro en w6 ⟨u6,rfl,hO6,hb6⟩;have B6:=af (B5.o.trans (hb6.mono B3.o.size));have S6:=af (A9 S5.o hb6.size);replace X1:=af (show BX w6 w.heap.size 60 _ from (hb6.block _ Z3.o).trans X1.o);have q0:=X1.o.c4;have HA:=af (show OS b_ 4 60 (w6.alloc (.cells #[I_ x.env,I_ x.page,I_ x.frame,.bool x.write] 60)) w3.heap.size _ _ from hO6.below (dm));have hyl:=af (show (o.drop 1).length+1<=1099511627776 by rw [List.length_drop];omega);have BA:=af (show Below w.heap.size w (w6.alloc (.cells #[I_ x.env,I_ x.page,I_ x.frame,.bool x.write] 60)) from Below.lit B6.o _)
  have SA:=af (show w3.heap.size<=(w6.alloc (.cells #[I_ x.env,I_ x.page,I_ x.frame,.bool x.write] 60)).heap.size from A9 S6.o (by simp));clear hO6 hb6 HF;go_wp2_with (at_builtin;refine aV gB rfl _ _ rfl w3.heap.size _ (o.drop 1) rfl HA.o _ [x] rfl (RS.one (f:=b_) x #[I_ x.env,I_ x.page,I_ x.frame,.bool x.write] rfl w6 _) hyl.o SA.o ?_;intro v' w7 Y1 Fh hx7;clear hx7;have Ho7:=af Y1;have Hg7:=af Fh;clear Y1 Fh);go_ret2;refine ⟨_,rfl,?_,Below.dN BA.o HA.o Hg7.o B3.o.size BA.o.size⟩;rcases HE.o with e | e
  ·rw [e,if_pos H4.o];exact Ho7.o.mono B3.o.size
  have:=Hl.o;omega
 have UM:((o.length:Int)==4)=false:=beq_eq_false_iff_ne.2 (by omega);have H4:=af h4;clear h4;have q0:=X1.o.c4;have HA:=af (show OS b_ 4 60 (w5.alloc (.cells #[I_ x.env,I_ x.page,I_ x.frame,.bool x.write] 60)) w3.heap.size _ _ from HO5.o.below (dm));have hyl:=af (show o.length+1<=1099511627776 by omega);have BA:=af (show Below w.heap.size w (w5.alloc (.cells #[I_ x.env,I_ x.page,I_ x.frame,.bool x.write] 60)) from Below.lit B5.o _);have SA:=af (show w3.heap.size<=(w5.alloc (.cells #[I_ x.env,I_ x.page,I_ x.frame,.bool x.write] 60)).heap.size from A9 S5.o (by simp))
 go_wp2_with (at_builtin;refine aV gB rfl _ _ rfl w3.heap.size _ o rfl HA.o _ [x] rfl (RS.one (f:=b_) x #[I_ x.env,I_ x.page,I_ x.frame,.bool x.write] rfl w5 _) hyl.o SA.o ?_;intro v' w7 Y1 Fh hx7;clear hx7;have Ho7:=af Y1;have Hg7:=af Fh;clear Y1 Fh);go_ret2;refine ⟨_,rfl,?_,Below.dN BA.o HA.o Hg7.o B3.o.size BA.o.size⟩;rcases HE.o with e | e
 ·rw [e,if_neg H4.o];exact Ho7.o.mono B3.o.size
 have:=Hl.o;omega
theorem abh:∀ x:List UInt8,Go.Op.bytesLess x x=false
 | []=>rfl
 | a :: x=>by
  rw [Go.Op.bytesLess];simp [abh x]
theorem aam:∀ (l:List Kx.Str) (s:Kx.Str),gz l s<=l.length/\(∀ t (h:t<l.length),t<gz l s->Kx.lt l[t] s=true)/\(∀ h:gz l s<l.length,Kx.lt l[gz l s] s=false)
 | [],s=>⟨Nat.le_refl _,fun t h=>absurd h (A' _),fun h=>absurd h (A' _)⟩
 | x :: l,s=>by
  obtain ⟨h1,h2,h3⟩:=aam l s
  cases hx:Kx.lt x s with
  | true =>
   have e:gz (x :: l) s=gz l s+1:=by unfold gz;rw [List.takeWhile_cons];simp [hx]
   rw [e];refine ⟨by simpa using h1,fun t ht hl=>?_,fun h=>?_⟩
   ·cases t with
    | zero=>exact hx
    | succ t=>exact h2 t (by simpa using ht) (by omega)
   exact h3 (by simpa using h)
  | false =>
   have e:gz (x :: l) s=0:=by unfold gz;rw [List.takeWhile_cons];simp [hx]
   refine ⟨by omega,fun t ht hl=>by omega,fun h=>?_⟩
   simp only [e];exact hx
theorem aa5:∀ (l:List Kx.Str),dR l=true->∀ i j (hi:i<l.length) (hj:j<l.length),i<j->Kx.lt l[i] l[j]=true
 | x :: l,h,0,j+1,_,hj,_=>uP h _ (A3 (by simpa using hj))
 | x :: l,h,i+1,j+1,hi,hj,hij=>aa5 l (by cases l with
   | nil=>rfl
   | cons y l=>simp only [dR,Ao] at h;exact h.2) i j (by simpa using hi) (by simpa using hj) (by omega)
theorem abz {l:List Kx.Str} {s:Kx.Str} (h:dR l=true) (t:Nat) (ht:t<l.length) (hk:gz l s<=t):Kx.lt l[t] s=false:=by
 obtain ⟨h1,h2,h3⟩:=aam l s;have h4:=h3 (by omega)
 by_cases e:gz l s=t
 ·subst e;exact h4
 cases hl:Kx.lt l[t] s with
 | false=>rfl
 | true =>
  have:=Kx.lt_trans (aa5 l h (gz l s) t (by omega) ht (by omega)) hl
  rw [h4] at this;exact this.symm
theorem ab3 (l:List Kx.Str) (s:Kx.Str) (h:dR l=true) (Sx:Nat->Kx.Str) (hS:∀ t (ht:t<l.length),Sx t=l[t]) (hS2:∀ t,l.length<=t->Sx t=s):Lib.bsGo (fun t=>Go.Op.bytesLess (Sx t).toList s.toList) l.length 0 l.length=gz l s:=by
 obtain ⟨h1,h2,h3⟩:=aam l s;refine Lib.bsGo_spec _ (gz l s) (fun t ht=>?_) (fun t ht=>?_) l.length 0 l.length (by omega) (Nat.zero_le _) h1
 ·rw [hS t (by omega)];exact h2 t (by omega) ht
 by_cases hl:t<l.length
 ·rw [hS t hl];exact abz h t hl ht
 rw [hS2 t (by omega)];exact abh _
theorem acf (l:List Kx.Str) (s:Kx.Str) (v:Value) (w:World) (h:dK w v l) (ha:dR l=true) :
  Calls prog 236 #[v,.string s] w fun e w'=>e=.returned (.tuple #[I_ (gz l s:Nat),.bool (decide (l[gz l s]?=some s))])/\Below w.heap.size w w':=by
 by_cases hl:l=[]
 ·subst hl;obtain ⟨a,cap,rfl,_,_⟩:=RS.val h;have hc:=Any2.slices_BinarySearch_string_empty laysNm226 a cap s w;change Calls prog 236 _ _ _ at hc;refine hc.mono ?_;rintro e w' ⟨rfl,rfl⟩;exact ⟨rfl,Below.refl _ _⟩
 have hpos:0<l.length:=List.length_pos_iff.2 hl;obtain ⟨b,off,cap,rfl,hb,_⟩:=dK.at h hpos;have hlen:=h.1;let Sx:Nat->Kx.Str:=fun t=>if ht:t<l.length then l[t] else s
 have hS:∀ t (ht:t<l.length),Sx t=l[t]:=fun t ht=>by simp [Sx,ht]
 have hS2:∀ t,l.length<=t->Sx t=s:=fun t ht=>by simp [Sx,Nat.not_lt.2 ht]
 have hc:=Any2.slices_BinarySearch_string laysNm226 b off l.length cap Sx s w (by omega) (fun j hj=>by
  obtain ⟨b',off',cap',ev,_,hcell⟩:=dK.at h hj;simp only [Value.slice.injEq,As,Addr.mk.injEq] at ev;obtain ⟨⟨rfl,rfl,_⟩,_⟩:=ev;rw [hS j hj];exact hcell)
 rw [ab3 l s ha Sx hS hS2] at hc;change Calls prog 236 _ _ _ at hc;refine hc.mono ?_;rintro e w' ⟨rfl,q,rfl⟩;refine ⟨?_,abf fZ _⟩;have e:decide (gz l s<l.length/\Sx (gz l s)=s)=decide (l[gz l s]?=some s):=by
  rw [decide_eq_decide];constructor
  ·rintro ⟨h1,h2⟩;rw [hS _ h1] at h2;rw [List.getElem?_eq_getElem h1,h2]
  intro h1;obtain ⟨h2,h3⟩:=List.getElem?_eq_some_iff.1 h1;exact ⟨h2,by rw [hS _ h2];exact h3⟩
 rw [e]
theorem aaD {e:Nat} {xs:List Value} (h:w.ownsRow base e 1 (A0 (some ⟨g,0,none⟩) n cap) n xs) (hc:n<cap):∃ u,w.ownsRow base e 1 (A0 (some ⟨g,0,none⟩) (n+1) cap) (n+1) (xs ++ [u]):=by
 obtain ⟨hl,h2⟩:=h;rcases h2 with ⟨h',_⟩ | ⟨g',cap',cur,h',hb,hg,hnc,hcm,hcs,ht⟩
 ·simp at h'
 simp only [Value.slice.injEq,As,Addr.mk.injEq,and_true,true_and] at h';obtain ⟨rfl,rfl⟩:=h';rw [Nat.mul_one] at hl hcs ht;have hlt:n<cur.toList.length:=by simp;omega
 refine ⟨cur.toList[n],by simp [hl],.inr ⟨g,cap,cur,rfl,hb,hg,by omega,hcm,by omega,?_⟩⟩;rw [Nat.mul_one,A1 hlt,ht]
theorem aa6:∀ l:List Kx.Str,flat df l=l.map Value.string
 | []=>rfl
 | x :: l=>by
  have:=aa6 l
  unfold flat at this ⊢;rw [List.flatMap_cons,this];rfl
theorem World.abA {t:Nat} {cs:Array Value} (h:w.heap[g]?=some (.cells cs t (0,0))):w.shape? g=some (t,cs.size):=by
 simp [World.shape?,h]
theorem abB (l:List Kx.Str) (s:Kx.Str) (k:Nat) (v:Value) (w:World) (base vb:Nat) (hbase:base<=w.heap.size) (h:OS df 1 9 w base v l) (hl:l.length<=1000) (hk:k<=l.length) (hX:BX w vb 9 [.string s]) (hne:∀ g,v.ownBlock=some g->vb≠g) :
  Calls prog 237 #[v,I_ k,A0 (some ⟨vb,0,none⟩) 1 1] w fun e w'=>∃ u,e=.returned u/\OS df 1 9 w' base u (l.take k ++ s :: l.drop k)/\Below base w w':=by
 have hlen:(l.take k ++ s :: l.drop k).length=l.length+1:=by rw [A2,List.length_cons,A6,List.length_drop];omega
 have hvs:∀ j u,([Value.string s]:List Value)[j]?=some u->w.cell? ⟨vb,0+j,none⟩=some u:=fun j u hj=>by
  rw [Al,hX.cell j];exact hj
 have h1v:∀ u ∈ ([Value.string s]:List Value),u.oneCell'=true:=fun u hu=>by simp at hu;subst hu;rfl
 have hcs1:∀ u ∈ flat df l,u.oneCell'=true:=fun u hu=>by obtain ⟨y,_,hy⟩:=List.mem_flatMap.1 hu;exact IV.one y u hy
 have hfl:(flat df l).length=l.length:=by rw [flat_length (sz:=1) (fun _=>rfl),Nat.mul_one]
 have hlm:l.length+1<=maxLen:=by unfold maxLen;omega
 -- a row made anew
 have made:∀ (W:World) (cs:Array Value) (c:Nat),base<=W.heap.size->l.length+1<=c->c<=maxLen->cs.size=c->cs.toList.take (l.length+1)=flat df (l.take k ++ s :: l.drop k) ->
   OS df 1 9 (W.alloc (.cells cs 9)) base (A0 (some ⟨W.heap.size,0,none⟩) (l.length+1) c) (l.take k ++ s :: l.drop k):=fun W cs c hb h1 h2 h3 h4 =>
  ⟨⟨by rw [flat_length (sz:=1) (fun _=>rfl)],.inr ⟨W.heap.size,c,cs,by rw [hlen],hb,heap_alloc_new W _,by omega,h2,by omega,by rw [hlen,Nat.mul_one];exact h4⟩⟩,by omega⟩
 have hfk:flat df (l.take k ++ s :: l.drop k)=(flat df l).take k ++ [.string s] ++ (flat df l).drop k:=by
  rw [aa6,aa6,List.map_append,List.map_cons,List.map_take,List.map_drop];simp
 by_cases hkn:k=l.length
 · -- at the end
  have grow:∀ (bs:Option Addr) (c:Nat),v=A0 bs l.length c->l.length<=c->c<l.length+1->(bs=none->l.length=0)->(∀ a,bs=some a->∀ j u,(flat df l)[j]?=some u->w.cell? (a.add j)=some u) ->
    Calls prog 237 #[v,I_ k,A0 (some ⟨vb,0,none⟩) 1 1] w fun e w'=>∃ u,e=.returned u/\OS df 1 9 w' base u (l.take k ++ s :: l.drop k)/\Below base w w':=by
   intro bs c hv h1 h2 h3 h4;have hc:=Any2.slices_Insert_string_end_grow laysNm222 bs l.length c vb 0 1 1 (flat df l) [.string s] w (by omega) h1 h2 (by omega) hfl rfl h3 h4 hvs h1v;change Calls prog 237 _ _ _ at hc;rw [hkn,hv];refine hc.mono ?_;rintro e w' ⟨rfl,rfl⟩;have hge:=grownCap_ge w (l.length+1) c 9;have hcm:=grownCap_le_maxLen w (l.length+1) c 9 hlm;refine ⟨_,rfl,?_,(Below.bz fZ).alloc hbase _⟩;have:=made w.drew ((flat df l ++ [Value.string s]).toArray ++ Builtin.zeroCells (Value.string ⟨#[]⟩).cells (grownCap w (l.length+1) c 9 - (l.length+1))) (grownCap w (l.length+1) c 9) hbase hge hcm
    (by simp only [Array.size_append,List.size_toArray,size_zeroCells,A2,hfl,List.length_singleton];show l.length+1+(grownCap w (l.length+1) c 9 - (l.length+1))*1=_;omega)
    (by
     rw [hfk,hkn,Array.toList_append];have e1:(flat df l).take l.length=flat df l:=List.take_of_length_le (by omega);have e2:(flat df l).drop l.length=[]:=List.drop_of_length_le (by omega);rw [e1,e2,List.append_nil];exact List.take_left' (by rw [A2,hfl,List.length_singleton]))
   rw [hkn] at this;exact this
  rcases h.1.2 with ⟨rfl,hn0⟩ | ⟨g,cap,cur,rfl,hbg,hg,hnc,hcm,hcs,htake⟩
  ·exact grow none 0 (by rw [hn0]) (by omega) (by omega) (fun _=>hn0) (fun a ha=>by simp at ha)
  by_cases hroom:l.length+1<=cap
  ·obtain ⟨u,hm⟩:=aaD h.1 (by omega);obtain ⟨h5,h6⟩:=zC [Value.string s] _ l.length w hm;have hc:=Any2.slices_Insert_string_end_room laysNm222 g 0 l.length cap vb 0 1 1 [.string s] w (by omega) hroom hcm rfl (fun j hj=>(h.KF (0+l.length+j) (by omega)).1) (fun j hj=>(h.KF (0+l.length+j) (by omega)).2) hvs h1v
   change Calls prog 237 _ _ _ at hc;rw [hkn];refine hc.mono ?_;rintro e w' ⟨rfl,rfl⟩;rw [setCells_at,Al];have e0:setAt (flat df l ++ [u]) l.length [Value.string s]=flat df (l.take k ++ s :: l.drop k):=by
    rw [UU _ _ _ (by rw [A2,hfl];simp),hfk,hkn];have e1:(flat df l).take l.length=flat df l:=List.take_of_length_le (by omega);have e2:(flat df l).drop l.length=[]:=List.drop_of_length_le (by omega);rw [e1,e2,List.take_left' hfl,List.length_singleton,List.drop_of_length_le (by rw [A2,hfl,List.length_singleton];omega)]
   rw [e0] at h5;have h7:OS df 1 9 (kP w g l.length [Value.string s]) base (A0 (some ⟨g,0,none⟩) (l.length+1) cap) (l.take k ++ s :: l.drop k):=⟨by rw [hlen];exact h5,by omega⟩;rw [hkn] at h7;exact ⟨_,rfl,h7,Below.aby fZ h h6 hbase⟩
  exact grow (some ⟨g,0,none⟩) cap rfl hnc (by omega) (fun e=>by simp at e) (fun a ha j u hj=>by
   simp only [As] at ha;subst ha;exact h.rs.NI j u hj)
 -- further to the front
 rcases h.1.2 with ⟨rfl,hn0⟩ | ⟨g,cap,cur,rfl,hbg,hg,hnc,hcm,hcs,htake⟩
 ·omega
 have acJ:∀ j u,(flat df l)[j]?=some u->w.cell? ⟨g,0+j,none⟩=some u:=fun j u hj=>by
  have:=h.rs.NI j u hj
  rwa [Addr.add_lit] at this
 by_cases hroom:l.length+1<=cap
 ·obtain ⟨u,hm⟩:=aaD h.1 (by omega);have hc:=Any2.slices_Insert_string_shift laysNm222 g 0 l.length cap k vb 0 1 1 (flat df l) [.string s] w (by omega) (by omega) hroom hcm (hne g rfl) hfl rfl acJ (fun j hj=>(h.KF (0+j) (by omega)).1) (fun j hj=>(h.KF (0+j) (by omega)).2) hvs hcs1 h1v
   9 9 1 cur.size (World.abA hX) (World.abA hg) (by omega) (hX.frozen 0) (hX.frozen 1)
  change Calls prog 237 _ _ _ at hc;refine hc.mono ?_;rintro e w' ⟨rfl,rfl⟩;have hm2:w.drew.ownsRow base 9 1 (A0 (some ⟨g,0,none⟩) (l.length+1) cap) (l.length+1) (flat df l ++ [u]):=hm;obtain ⟨h5,h6⟩:=zC ((flat df l).drop k) _ (k+1) w.drew hm2;obtain ⟨h7,h8⟩:=zC [Value.string s] _ k _ h5;have hd:((flat df l).drop k).length=l.length - k:=by rw [List.length_drop,hfl]
  have hdr:(flat df l ++ [u]).drop (k+1+(l.length - k))=[]:=List.drop_of_length_le (by rw [A2,hfl,List.length_singleton];omega);have e0:setAt (setAt (flat df l ++ [u]) (k+1) ((flat df l).drop k)) k [Value.string s]=flat df (l.take k ++ s :: l.drop k):=by
   rw [UU ((flat df l).drop k) _ _ (by simp [hfl];omega),hd,hdr,List.append_nil];have hq:((flat df l ++ [u]).take (k+1)).length=k+1:=by rw [A6,A2,hfl,List.length_singleton];omega
   rw [UU _ _ _ (by rw [A2,hq,List.length_singleton];omega),List.take_append_of_le_length (by omega),List.take_take,Nat.min_eq_left (by omega),List.take_append_of_le_length (by omega),List.length_singleton,List.drop_left' hq,hfk]
  rw [e0] at h7;rw [setCells_at,setCells_at,Al,Al];refine ⟨_,rfl,⟨by rw [hlen];exact h7,by omega⟩,?_⟩;exact Below.aby (Below.bz fZ) (h.drewN 1) (grownBy_trans h6 h8) hbase
 have hc:=Any2.slices_Insert_string_grow laysNm222 g 0 l.length cap k vb 0 1 1 (flat df l) [.string s] w (by omega) (by omega) hnc (by omega) (by omega) hfl rfl acJ hvs hcs1 h1v;change Calls prog 237 _ _ _ at hc;refine hc.mono ?_;rintro e w' ⟨rfl,rfl⟩;rw [show laysNm222_ren.t 9=9 from rfl];have hge:=grownCap_ge w (l.length+1) cap 9;have hcm2:=grownCap_le_maxLen w (l.length+1) cap 9 hlm;generalize grownCap w (l.length+1) cap 9=c2 at hge hcm2;obtain ⟨zs,hzs⟩:=XP (Builtin.zeroCells (Value.string ⟨#[]⟩).cells (l.length+1 - k));obtain ⟨z2,hz2⟩:=XP (Builtin.zeroCells (Value.string ⟨#[]⟩).cells (c2 - (l.length+1)));have hzl:zs.size=l.length+1 - k:=by rw [<-hzs,size_zeroCells];show _*1=_;omega
 have adz:z2.size=c2 - (l.length+1):=by rw [<-hz2,size_zeroCells];show _*1=_;omega
 rw [hzs,hz2];have htk:((flat df l).take k).length=k:=by rw [A6];omega
 obtain ⟨xs0,hx0⟩:=XP ((flat df l).take k ++ zs.toList);have adA:xs0.length=l.length+1:=by rw [<-hx0,A2,htk];simp [hzl];omega
 have hm:(w.alloc (.cells (((flat df l).take k).toArray ++ zs ++ z2) 9)).drew.ownsRow base 9 1 (A0 (some ⟨w.heap.size,0,none⟩) (l.length+1) c2) (l.length+1) xs0:=by
  refine ⟨by omega,.inr ⟨w.heap.size,c2,_,rfl,hbase,heap_alloc_new w _,hge,hcm2,?_,?_⟩⟩
  ·simp only [Array.size_append,List.size_toArray,htk,hzl,adz];omega
  rw [Nat.mul_one,Array.toList_append,Array.toList_append,hx0];exact List.take_left' adA
 obtain ⟨h5,h6⟩:=zC [Value.string s] _ k _ hm;have h5':((kP (w.alloc (.cells (((flat df l).take k).toArray ++ zs ++ z2) 9)).drew w.heap.size k [Value.string s]).drew).ownsRow base 9 1 (A0 (some ⟨w.heap.size,0,none⟩) (l.length+1) c2) (l.length+1) (setAt xs0 k [Value.string s]):=h5;obtain ⟨h7,h8⟩:=zC ((flat df l).drop k) _ (k+1) _ h5';have hd:((flat df l).drop k).length=l.length - k:=by rw [List.length_drop,hfl]
 have adB:xs0.take k=(flat df l).take k:=by rw [<-hx0];exact List.take_left' htk
 have e1:setAt xs0 k [Value.string s]=(flat df l).take k ++ [.string s] ++ xs0.drop (k+1):=by
  rw [UU _ _ _ (by rw [List.length_singleton];omega),adB,List.length_singleton]
 have hq:((flat df l).take k ++ [Value.string s]).length=k+1:=by rw [A2,htk,List.length_singleton]
 have hq2:(xs0.drop (k+1)).length=l.length - k:=by rw [List.length_drop];omega
 have e0:setAt (setAt xs0 k [Value.string s]) (k+1) ((flat df l).drop k)=flat df (l.take k ++ s :: l.drop k):=by
  have hdr:List.drop (k+1+(l.length - k)) ((flat df l).take k ++ [Value.string s] ++ xs0.drop (k+1))=[]:=List.drop_of_length_le (by rw [A2,hq,hq2];omega);rw [e1,UU _ _ _ (by rw [A2,hq,hq2,hd];omega),List.take_left' hq,hd,hdr,List.append_nil,hfk]
 rw [e0] at h7;rw [setCells_at,setCells_at];refine ⟨_,rfl,⟨by rw [hlen];exact h7,by omega⟩,?_⟩;have b0:Below base w (w.alloc (.cells (((flat df l).take k).toArray ++ zs ++ z2) 9)).drew:=Below.bz (fZ.alloc hbase _);have b1:=b0.grown h6 (by simp;omega) (fun q hq=>by simp at hq;omega);have b2:Below base w ((kP (w.alloc (.cells (((flat df l).take k).toArray ++ zs ++ z2) 9)).drew w.heap.size k [Value.string s]).drew):=Below.bz b1;exact b2.grown h8 (A9 hbase b2.size) (fun q hq=>by simp at hq;omega)
theorem abC (l:List Kx.Str) (s:Kx.Str) (v:Value) (w:World) (h:dK w v l) (hsz:∀ x ∈ l,x.size<=9223372036854775807) (hv:aS l=true) (hr:bT s=true) (hss:s.size<=9223372036854775807) :
  Calls prog 188 #[v,.string s] w (yH df 1 9 w (jS l s).1 [.bool (jS l s).2]):=by
 have hv':=hv;unfold aS at hv';simp only [Ao,decide_eq_true_eq] at hv';have Zy:=af (eG l v w h hsz);have HC2:=af (fun W (hb:Below w.heap.size w W)=>aay l v W (RS.below h hb))
 have TG:=af (fun W=>oM s W hss);have HC4:=af (fun W (hb:Below w.heap.size w W)=>acf l s v W (RS.below h hb) hv'.1.2)
 have Hv:=af hv;have Hr:=af hr;have H6:=af hv'.2;have HE:=af (show jS l s=if l[gz l s]?=some s then (l,true) else if 6<=l.length then (l,false) else (l.take (gz l s) ++ s :: l.drop (gz l s),true) from rfl);have Hrp:=af (aam l s).1;obtain ⟨a,cap,rfl,_,_⟩:=RS.val h;generalize gz l s=r at HE Hrp HC4;clear h hsz hv hr hss hv';go_enter func188,ntmps188;go_wp2_with fail;refine Zy.o.mono ?_;rintro en w2 ⟨rfl,hb⟩;rw [Hv.o];have B2:=af hb;clear hb;go_wp2_with fail;refine (TG.o w2).mono ?_;rintro en w3 ⟨rfl,hb⟩;rw [Hr.o];have B3:=af (B2.o.trans (hb.mono B2.o.size));clear hb;go_wp2_with fail;refine (HC4.o _ B3.o).mono ?_;rintro en w4 ⟨rfl,hb⟩;have B4:=af (B3.o.trans (hb.mono B3.o.size));clear hb
 by_cases hhas:l[r]?=some s
 ·rw [decide_eq_true hhas];have HE2:=af (show jS l s=(l,true) by rw [HE.o,if_pos hhas]);clear hhas;go_wp2_with fail;refine (HC2.o _ B4.o).mono ?_;rintro en w5 ⟨u,rfl,hO,hb⟩;have B5:=af (B4.o.trans (hb.mono B4.o.size));have HO:=af hO;clear hb hO;go_wp2_with fail;go_ret2;rw [HE2.o];exact ⟨_,rfl,HO.o.mono B4.o.size,B5.o⟩
 rw [decide_eq_false hhas]
 by_cases h6:l.length=6
 ·have h6b:((l.length:Int)==6)=true:=by rw [h6];rfl
  have HE2:=af (show jS l s=(l,false) by rw [HE.o,if_neg hhas,if_pos (by omega)]);clear hhas h6;go_wp2_with fail;refine (HC2.o _ B4.o).mono ?_;rintro en w5 ⟨u,rfl,hO,hb⟩;have B5:=af (B4.o.trans (hb.mono B4.o.size));have HO:=af hO;clear hb hO;go_wp2_with fail;go_ret2;rw [HE2.o];exact ⟨_,rfl,HO.o.mono B4.o.size,B5.o⟩
 have h6b:((l.length:Int)==6)=false:=beq_eq_false_iff_ne.2 (by omega);have Zg:=H6.o;have HE2:=af (show jS l s=(l.take r ++ s :: l.drop r,true) by rw [HE.o,if_neg hhas,if_neg (by omega)]);have Hl6:=af Zg;clear hhas h6 Zg;go_wp2_with fail;refine (HC2.o _ B4.o).mono ?_;rintro en w5 ⟨u,rfl,hO,hb⟩;have B5:=af (B4.o.trans (hb.mono B4.o.size));have S5:=af hb.size;have HI:=af (abB l s r u (w5.alloc (.cells #[.string s] 9)) w4.heap.size w5.heap.size (A9 hb.size (by simp)) (hO.below (dm)) (by have:=Hl6.o;omega) Hrp.o (BX.new w5 _ _) (fun g hg=>by have:=(hO.lt g hg).2;omega))
 have B6:=af (show Below w.heap.size w (w5.alloc (.cells #[.string s] 9)) from Below.lit B5.o _);clear hb hO;go_wp2_with fail;refine HI.o.mono ?_;rintro en w7 ⟨u7,rfl,hO,hb⟩;have B7:=af (B6.o.trans (hb.mono B4.o.size));have HO:=af hO;clear hb hO;go_wp2_with fail;go_ret2;rw [HE2.o];exact ⟨_,rfl,HO.o.mono B4.o.size,B7.o⟩
theorem abD {ws:List Int} {j:Nat} (hj:j<ws.length):ax (ws.take (j+1))=ax (ws.take j) ++ (match Kx.entry ws[j] with | none=>[] | some p=>[p.1]):=by
 unfold ax;rw [A1 hj,List.filterMap_append]
 cases h:Kx.entry ws[j] <;> simp [h]
theorem aa7 (l:List aG) (a b:List Nat) (d:Int):Kx.bD l (a ++ b) d=Kx.bD (Kx.bD l a d) b d:=by
 unfold Kx.bD;rw [List.foldl_append]
theorem aaW (l:List aG) (f g:Nat) (k d:Int):Kx.setKind (Kx.aF l g d) f k=Kx.aF (Kx.setKind l f k) g d:=by
 refine List.ext_getElem? fun i=>?_
 unfold Kx.setKind Kx.aF Kx.inf;simp only [List.getElem?_set,List.length_set,List.getD_eq_getElem?_getD]
 by_cases h1:f=i <;> by_cases h2:g=i <;> by_cases h3:f=g <;> by_cases h4:i<l.length <;> simp_all
theorem aaf (f:Nat) (k d:Int):∀ (fs:List Nat) (l:List aG),Kx.setKind (Kx.bD l fs d) f k=Kx.bD (Kx.setKind l f k) fs d
 | [],_=>rfl
 | g :: fs,l=>by
  show Kx.setKind (Kx.bD (Kx.aF l g d) fs d) f k=Kx.bD (Kx.aF (Kx.setKind l f k) g d) fs d
  rw [aaf f k d fs,aaW]
theorem abU (m:List (List Int)) (l:List aG) (f:Nat) (d:Int) (vm v:Value) (w:World) (hm:RM w vm m) (hmo:bW m=true) (h:bV w v l) (h12:l.length=12) (hn:oI 1000 l) (hd:d=1\/d=-1) (hf:f<12) :
  Calls prog 231 #[vm,v,I_ f,I_ d] w (yu bH 3 37 w (Kx.bD l (ax (Kx.row m f)) d)):=by
 obtain ⟨uk,hr4,hwd⟩:=mem_row hmo hf;obtain ⟨bm,om,cm,um,rfl,hcm,m_⟩:=hm.row hmo hf;have Tj:=World.block_lt_of_cell? w _ hcm;have HC:=af (BD l v w h);have fJ:=af h12;have Hn:=af hn;have Hd:=af hd;have Jo:=af m_;have VT:=af Tj;have Hcm:=af hcm;have Z_:=af hwd;have wJ:(f:Int)<12:=by omega
 obtain ⟨ar,cr,rfl⟩:=m_.val;clear h h12 hn hd m_ hm hmo uk hf Tj hcm hwd;generalize Kx.row m f=row at *;have Oz:=af hr4;clear hr4;go_enter func231,ntmps231;go_wp2_with fail;refine HC.o.mono ?_;rintro en w1 ⟨u,rfl,ho,hb⟩;have B1:=af hb;have hcm:=(hb.cell (p:=⟨bm,om+f,none⟩) VT.o).trans Hcm.o;obtain ⟨g,cg,rfl,hg1,hg2⟩:=ho.shape (by rw [fJ.o];decide);have O1:=af (show OS bH 3 37 w1 w.heap.size _ (Kx.bD l (ax (row.take 0)) d) from ho);have R0:=af (show oI (1000+((0:Nat):Int)) (Kx.bD l (ax (row.take 0)) d) by have:=Hn.o;simpa [ax,Kx.bD] using this);have RG:=af hg1;have h4:row.length=4:=Oz.o;clear ho hb HC hg1 hg2;go_wp2_with fail;clear hcm
 go_loopw [22] (fun i wr=>∃ j:Nat,i=I_ j/\j<=row.length/\TI (OS bH 3 37 wr w.heap.size (A0 (some ⟨g,0,none⟩) l.length cg) (Kx.bD l (ax (row.take j)) d))/\TI (oI (1000+j) (Kx.bD l (ax (row.take j)) d))/\TI (Below w.heap.size w wr)) (fun i _=>row.length - (intOf i).toNat)
 case atStart=>exact ⟨0,rfl,Nat.zero_le _,O1.o,R0.o,B1.o⟩
 case round =>
  clear O1 R0 B1;obtain ⟨j,rfl,hj,ho,hne,hb⟩:=hrel
  by_cases hlt:j<row.length
  ·have Q5:(j:Int)<(row.length:Int):=by omega
   obtain ⟨bn,on,cn',ev,VU,hcn⟩:=Jo.o.at hlt;obtain ⟨rfl,_,rfl⟩:=Za ev;clear ev;have q0:=(hb.o.cell (p:=⟨bn,on+j,none⟩) VU).trans hcn;have Oq:=Z_.o _ (A3 hlt);have jU:=af (abD hlt);generalize row[j]=x at q0 Oq jU;have hxm:x<=9223372036854775807:=by omega
   clear hcn Oq
   cases hen:Kx.entry x with
   | none =>
    have HE:=af (show ax (row.take (j+1))=ax (row.take j) by rw [jU.o,hen];simp);have HEg:=af (G7 hen);clear hen;go_wp2_with fail;refine (bZ x wr hxm).mono ?_;rintro en w2 ⟨rfl,rfl⟩;rw [HEg.o];go_wp2_with fail;go_roundw
    case rel=>exact ⟨j+1,by go_num,by omega,by rw [HE.o];exact ho,by rw [HE.o];exact fun y=>by have:=hne.o y;omega,hb⟩
    case measure=>simp [intOf];omega
   | some pr =>
    obtain ⟨fr,bw⟩:=pr;have hfr:=dU hen;have HE:=af (show Kx.bD l (ax (row.take (j+1))) d=Kx.aF (Kx.bD l (ax (row.take j)) d) fr d by rw [jU.o,hen,aa7];rfl);have HEg:=af (C_ hen);have hlc:(Kx.bD l (ax (row.take j)) d).length=l.length:=h_ l;have hxl:fr<(Kx.bD l (ax (row.take j)) d).length:=by rw [hlc,fJ.o];exact hfr
    have Oa:(fr:Int)<(l.length:Int):=by have:=fJ.o;omega
    have hnr:=hne.o fr;have DW:=af (hne.o.set Hd.o hxl);obtain ⟨_,_,_,ev,_,_,_,q1⟩:=bV.at ho.o.rs hxl;rw [hlc] at ev;simp only [Value.slice.injEq,As,Addr.mk.injEq] at ev;obtain ⟨⟨rfl,rfl,_⟩,_,rfl⟩:=ev;rw [Al] at q1;obtain ⟨⟨z9,IM⟩,hfz⟩:=ho.o.bP fr hxl 2 (by decide);obtain ⟨r,hr⟩:=XP ((Kx.inf (Kx.bD l (ax (row.take j)) d) fr).refs);have zL:=af (ho.o.aF hlc fr (r+d) hxl);have Tn:=af (show Kx.aF (Kx.bD l (ax (row.take j)) d) fr d=(Kx.bD l (ax (row.take j)) d).set fr { Kx.inf (Kx.bD l (ax (row.take j)) d) fr with refs:=r+d } by unfold Kx.aF;rw [hr]);rw [hr] at q1 hnr;have hwr2:IntKind.i64.wrap (r+d)=r+d:=by
     have:=Hd.o
     rw [IntKind.wrap_i64];omega
    have hwr:wrap64 (r+d)=r+d:=by
     have:=Hd.o
     unfold wrap64;omega
    obtain ⟨W5,AU⟩:=XP (wr.setCell ⟨g,fr*3+2,none⟩ (I_ (r+d)));have OW:=af (show OS bH 3 37 W5 w.heap.size (A0 (some ⟨g,0,none⟩) l.length cg) (Kx.bD l (ax (row.take (j+1))) d) by rw [HE.o,Tn.o,<-AU];exact zL.o);have BW:=af (show Below w.heap.size w W5 from AU ▸ hb.o.setCell (p:=⟨g,fr*3+2,none⟩) RG.o (I_ (r+d)));have NW:=af (show oI (1000+((j+1:Nat):Int)) (Kx.bD l (ax (row.take (j+1))) d) by rw [HE.o];exact fun y=>by have:=DW.o y;omega)
    clear hen ho hne hb zL Tn DW hnr hr HE jU IM;go_wp2_with fail;refine (bZ x wr hxm).mono ?_;rintro en w2 ⟨rfl,rfl⟩;rw [HEg.o];go_wp2_with fail;go_roundw
    case rel=>exact ⟨j+1,by go_num,by omega,OW.o,NW.o,BW.o⟩
    case measure=>simp [intOf];omega
  have hjn:j=row.length:=by omega
  subst hjn;go_wp2_with fail;go_ret;rw [List.take_length] at ho;exact ⟨_,rfl,ho.o,hb.o⟩
theorem abg (x:Int) (w:World) (h:0<=x/\x<=2):Calls prog 184 #[I_ x] w fun e w'=>e=.returned (I_ (if x=0 then 0 else if x=1 then 2 else 3))/\w=w':=by
 have h3:x=0\/x=1\/x=2:=by omega
 rcases h3 with rfl | rfl | rfl <;> (clear h;go_enter func184,ntmps184;go_wp2_with fail;go_ret;exact ⟨rfl,rfl⟩)
theorem aaq {l:List aG} (h:bC l=true) {f:Nat} (hf:f<l.length):0<=(Kx.inf l f).refs:=by
 unfold bC at h;simp only [Ao] at h;exact (qR (List.all_eq_true.1 h.1 _ (ry hf))).1
theorem aa3 (m:List (List Int)) (l:List aG) (f:Nat) (kind:Int) (r:List Kx.Str) (vm v u:Value) (w:World) (hm:RM w vm m) (hmo:bW m=true) (h:bV w v l) (hs:jo l) (jI:bC l=true) (h12:l.length=12) (hr:dK w u r) (hro:aS r=true) (hrs:Dw r) (hf:f<12) (hk:kind=2\/kind=3) :
  Calls prog 183 #[vm,v,I_ f,I_ kind,u] w (yH bH 3 37 w (Kx.pin m l f kind r).1 [I_ (Kx.pin m l f kind r).2]):=by
 have hin:Kx.bK f 0 11=true:=by rw [Kx.ay];omega
 have ht:aX kind=true:=by rcases hk with rfl | rfl <;> rfl
 have hfl:f<l.length:=by omega
 have HV:=af (show Kx.pin m l f kind r=(if (Kx.inf l f).kind≠1\/(Kx.inf l f).refs > 0 then (l,1)
  else if !Kx.rowOk m l f kind r then (l,2)
  else if bC (Kx.setKind (Kx.bD l (ax (Kx.row m f)) 1) f kind) then (Kx.setKind (Kx.bD l (ax (Kx.row m f)) 1) f kind,0)
  else (l,1)) by unfold Kx.pin;rw [hmo,hin,jI,ht,hro,aaf];rfl)
 have HM:=af (kL m vm w hm);have HI:=af (fun W (hb:Below w.heap.size w W)=>uY l v W (RS.below h hb) hs)
 have HC:=af (fun W (hb:Below w.heap.size w W)=>BD l v W (RS.below h hb))
 have HR:=af (fun W (hb:Below w.heap.size w W)=>eG r u W (RS.below hr hb) hrs)
 have HG:=af (fun W (hb:Below w.heap.size w W)=>BA m l f kind r vm v u W (hm.below hb) hmo (RS.below h hb) h12 (RS.below hr hb) hk hf)
 have HF:=af (fun W (hb:Below w.heap.size w W)=>abU m l f 1 vm v W (hm.below hb) hmo (RS.below h hb) h12 (oI.MZ jI) (.inl rfl) hf)
 have kG:=af hmo;have nM:=af jI;have mW:=af hro;have jR:=af hin;have Ht:=af ht;have fJ:=af h12;have Ub:=af hfl;have P_:=af (show jo (Kx.setKind (Kx.bD l (ax (Kx.row m f)) 1) f kind) from jo.setKind (jo.bD hs fun x hx=>by rw [h12];exact nD hx) (by rw [h_];exact hfl));have abm:=aaq jI hfl;obtain ⟨_,am,cm,rfl,_,_⟩:=hm.len;obtain ⟨bi,oi,ci,rfl,zN,d0,_,d2⟩:=bV.at h hfl;have wJ:(f:Int)<(l.length:Int):=by omega
 have PD:=af zN;have D0:=af d0;have D2:=af d2;clear hm h hs hmo jI h12 hf hin hr hro hrs hk ht hfl d0 d2 zN;go_enter func183,ntmps183;go_wp2_with fail;refine HM.o.mono ?_;rintro en w1 ⟨rfl,hb⟩;rw [kG.o];have B1:=af hb;clear hb;go_wp2_with fail;refine (HI.o _ B1.o).mono ?_;rintro en w2 ⟨rfl,hb⟩;rw [nM.o];have B2:=af (B1.o.trans (hb.mono B1.o.size));clear hb;go_wp2_with fail;refine (jO _ _).mono ?_;rintro en w3 ⟨rfl,rfl⟩;rw [jR.o];go_wp2_with fail;refine (j_ _ _).mono ?_;rintro en w3 ⟨rfl,rfl⟩;rw [Ht.o];go_wp2_with fail;refine (HR.o _ B2.o).mono ?_;rintro en w4 ⟨rfl,hb⟩;rw [mW.o];have B4:=af (B2.o.trans (hb.mono B2.o.size));clear hb;have c0:=(B4.o.cell (p:=⟨bi,oi+f*3,none⟩) PD.o).trans D0.o;have c2:=(B4.o.cell (p:=⟨bi,oi+f*3+2,none⟩) PD.o).trans D2.o;obtain ⟨kd,hkd⟩:=XP ((Kx.inf l f).kind)
 obtain ⟨rf,hrf⟩:=XP ((Kx.inf l f).refs);rw [hkd,hrf] at HV;rw [hkd] at c0;rw [hrf] at c2 abm;clear hkd hrf
 by_cases hk1:kd=1
 ·subst hk1
  by_cases hr0:rf=0
  ·subst hr0;have zG:=af (show Kx.pin m l f kind r=(if !Kx.rowOk m l f kind r then (l,2) else if bC (Kx.setKind (Kx.bD l (ax (Kx.row m f)) 1) f kind) then (Kx.setKind (Kx.bD l (ax (Kx.row m f)) 1) f kind,0) else (l,1)) by rw [HV.o,if_neg (by simp)]);clear HV abm;go_wp2_with fail;refine (HG.o _ B4.o).mono ?_;rintro en w5 ⟨rfl,hb⟩;have B5:=af (B4.o.trans (hb.mono B4.o.size));clear hb c0 c2
   cases hro:Kx.rowOk m l f kind r with
   | false =>
    have hF:Kx.pin m l f kind r=(l,2):=by rw [zG.o,hro];rfl
    clear hro;go_wp2_with fail;refine (HC.o _ B5.o).mono ?_;rintro en w9 ⟨u9,rfl,hO,hb⟩;have B9:=af (B5.o.trans (hb.mono B5.o.size));have HO:=af hO;clear hb hO;go_wp2_with fail;go_ret2;rw [hF];exact ⟨_,rfl,HO.o.mono B5.o.size,B9.o⟩
   | true =>
    have HV3:=af (show Kx.pin m l f kind r=(if bC (Kx.setKind (Kx.bD l (ax (Kx.row m f)) 1) f kind) then (Kx.setKind (Kx.bD l (ax (Kx.row m f)) 1) f kind,0) else (l,1)) by rw [zG.o,hro];rfl);clear hro zG;go_wp2_with fail;refine (HF.o _ B5.o).mono ?_;rintro en w6 ⟨u6,rfl,yI,hb6⟩;have B6:=af (B5.o.trans (hb6.mono B5.o.size));have Zg:(Kx.bD l (ax (Kx.row m f)) (1)).length=l.length:=h_ l;obtain ⟨g,cg,rfl,hg1,hg2⟩:=yI.shape (by rw [Zg,fJ.o];decide);have hgw:w.heap.size<=g:=A9 B5.o.size hg1;obtain ⟨W7,Iq⟩:=XP (w6.setCell ⟨g,f*3,none⟩ (I_ kind));have abO:f<(Kx.bD l (ax (Kx.row m f)) (1)).length:=by rw [Zg];exact Ub.o
    have O7:=af (show OS bH 3 37 W7 w.heap.size _ _ from Iq ▸ (yI.setKind rfl f kind abO).mono B5.o.size);have B7:=af (show Below w.heap.size w W7 from Iq ▸ B6.o.setCell (p:=⟨g,f*3,none⟩) hgw (I_ kind));obtain ⟨⟨z0,hz0⟩,hf0⟩:=yI.bP f abO 0 (by decide);rw [An] at hz0 hf0;obtain ⟨L6,hL6⟩:=XP (Kx.setKind (Kx.bD l (ax (Kx.row m f)) (1)) f kind);rw [hL6] at O7 P_ HV3;rw [Zg] at O7 ⊢;have Tt:=af (uY L6 _ W7 O7.o.rs P_.o);clear yI hb6 hg1 hg2 hgw abO Zg hL6;go_wp2_with fail;refine Tt.o.mono ?_;rintro en w8 ⟨rfl,hb8⟩;have O8:=af (O7.o.below hb8);have B8:=af (B7.o.trans (hb8.mono B7.o.size));clear hb8 Tt hz0 hf0 Iq
    cases hv:bC L6 with
    | true =>
     have hF:Kx.pin m l f kind r=(L6,0):=by rw [HV3.o,hv];rfl
     clear hv;go_wp2_with fail;go_ret2;rw [hF];exact ⟨_,rfl,O8.o,B8.o⟩
    | false =>
     have hF:Kx.pin m l f kind r=(l,1):=by rw [HV3.o,hv];rfl
     clear hv;go_wp2_with fail;refine (HC.o _ B8.o).mono ?_;rintro en w9 ⟨u9,rfl,hO,hb⟩;have B9:=af (B8.o.trans (hb.mono B8.o.size));have HO:=af hO;clear hb hO;go_wp2_with fail;go_ret2;rw [hF];exact ⟨_,rfl,HO.o.mono B8.o.size,B9.o⟩
  have hrb:(rf != 0)=true:=by simpa using hr0
  have hF:Kx.pin m l f kind r=(l,1):=by rw [HV.o,if_pos (.inr (by omega))]
  clear hr0 abm;go_wp2_with fail;refine (HC.o _ B4.o).mono ?_;rintro en w9 ⟨u9,rfl,hO,hb⟩;have B9:=af (B4.o.trans (hb.mono B4.o.size));have HO:=af hO;clear hb hO;go_wp2_with fail;go_ret2;rw [hF];exact ⟨_,rfl,HO.o.mono B4.o.size,B9.o⟩
 have hkb:(kd != 1)=true:=by simpa using hk1
 have hF:Kx.pin m l f kind r=(l,1):=by rw [HV.o,if_pos (.inl hk1)]
 clear hk1 abm;go_wp2_with fail;refine (HC.o _ B4.o).mono ?_;rintro en w9 ⟨u9,rfl,hO,hb⟩;have B9:=af (B4.o.trans (hb.mono B4.o.size));have HO:=af hO;clear hb hO;go_wp2_with fail;go_ret2;rw [hF];exact ⟨_,rfl,HO.o.mono B4.o.size,B9.o⟩
theorem aaN (m:List (List Int)) (l:List aG) (f:Nat) (vm v:Value) (w:World) (hm:RM w vm m) (hmo:bW m=true) (h:bV w v l) (hs:jo l) (jI:bC l=true) (h12:l.length=12) (hf:f<12) :
  Calls prog 185 #[vm,v,I_ f] w (yH bH 3 37 w (oL m l f).1 [I_ (oL m l f).2]):=by
 have hin:Kx.bK f 0 11=true:=by rw [Kx.ay];omega
 have hfl:f<l.length:=by omega
 have HV:=af (show oL m l f=(if aX (Kx.inf l f).kind=false\/(Kx.inf l f).refs > 0 then (l,1)
  else if bC (Kx.setKind (Kx.bD l (ax (Kx.row m f)) (-1)) f 1) then (Kx.setKind (Kx.bD l (ax (Kx.row m f)) (-1)) f 1,0)
  else (l,2)) by unfold oL;rw [hmo,hin,jI,aaf];rfl)
 have HM:=af (kL m vm w hm);have HI:=af (fun W (hb:Below w.heap.size w W)=>uY l v W (RS.below h hb) hs)
 have HC:=af (fun W (hb:Below w.heap.size w W)=>BD l v W (RS.below h hb))
 have HF:=af (fun W (hb:Below w.heap.size w W)=>abU m l f (-1) vm v W (hm.below hb) hmo (RS.below h hb) h12 (oI.MZ jI) (.inr rfl) hf)
 have kG:=af hmo;have nM:=af jI;have jR:=af hin;have fJ:=af h12;have Ub:=af hfl;have P_:=af (show jo (Kx.setKind (Kx.bD l (ax (Kx.row m f)) (-1)) f 1) from jo.setKind (jo.bD hs fun x hx=>by rw [h12];exact nD hx) (by rw [h_];exact hfl));have abm:=aaq jI hfl;obtain ⟨_,am,cm,rfl,_,_⟩:=hm.len;obtain ⟨bi,oi,ci,rfl,zN,d0,_,d2⟩:=bV.at h hfl;have wJ:(f:Int)<(l.length:Int):=by omega
 have PD:=af zN;have D0:=af d0;have D2:=af d2;clear hm h hs hmo jI h12 hf hin hfl d0 d2 zN;go_enter func185,ntmps185;go_wp2_with fail;refine HM.o.mono ?_;rintro en w1 ⟨rfl,hb⟩;rw [kG.o];have B1:=af hb;clear hb;go_wp2_with fail;refine (HI.o _ B1.o).mono ?_;rintro en w2 ⟨rfl,hb⟩;rw [nM.o];have B4:=af (B1.o.trans (hb.mono B1.o.size));clear hb;go_wp2_with fail;refine (jO _ _).mono ?_;rintro en w3 ⟨rfl,rfl⟩;rw [jR.o];have c0:=(B4.o.cell (p:=⟨bi,oi+f*3,none⟩) PD.o).trans D0.o;have c2:=(B4.o.cell (p:=⟨bi,oi+f*3+2,none⟩) PD.o).trans D2.o;obtain ⟨kd,hkd⟩:=XP ((Kx.inf l f).kind);obtain ⟨rf,hrf⟩:=XP ((Kx.inf l f).refs);rw [hkd,hrf] at HV;rw [hkd] at c0;rw [hrf] at c2 abm;clear hkd hrf;go_wp2_with fail
 cases htb:aX kd with
 | true =>
  refine (j_ _ _).mono ?_;rintro en w3 ⟨rfl,rfl⟩;rw [htb]
  by_cases hr0:rf=0
  ·subst hr0;have HV3:=af (show oL m l f=(if bC (Kx.setKind (Kx.bD l (ax (Kx.row m f)) (-1)) f 1) then (Kx.setKind (Kx.bD l (ax (Kx.row m f)) (-1)) f 1,0) else (l,2)) by rw [HV.o,if_neg (by simp [htb])]);clear HV abm htb c0;go_wp2_with fail;refine (HF.o _ B4.o).mono ?_;rintro en w6 ⟨u6,rfl,yI,hb6⟩;have B6:=af (B4.o.trans (hb6.mono B4.o.size));have Zg:(Kx.bD l (ax (Kx.row m f)) (-1)).length=l.length:=h_ l;obtain ⟨g,cg,rfl,hg1,hg2⟩:=yI.shape (by rw [Zg,fJ.o];decide);have hgw:w.heap.size<=g:=A9 B4.o.size hg1;obtain ⟨W7,Iq⟩:=XP (w6.setCell ⟨g,f*3,none⟩ (I_ 1));have abO:f<(Kx.bD l (ax (Kx.row m f)) (-1)).length:=by rw [Zg];exact Ub.o
   have O7:=af (show OS bH 3 37 W7 w.heap.size _ _ from Iq ▸ (yI.setKind rfl f 1 abO).mono B4.o.size);have B7:=af (show Below w.heap.size w W7 from Iq ▸ B6.o.setCell (p:=⟨g,f*3,none⟩) hgw (I_ 1));obtain ⟨⟨z0,hz0⟩,hf0⟩:=yI.bP f abO 0 (by decide);rw [An] at hz0 hf0;obtain ⟨L6,hL6⟩:=XP (Kx.setKind (Kx.bD l (ax (Kx.row m f)) (-1)) f 1);rw [hL6] at O7 P_ HV3;rw [Zg] at O7 ⊢;have Tt:=af (uY L6 _ W7 O7.o.rs P_.o);clear yI hb6 hg1 hg2 hgw abO Zg hL6;go_wp2_with fail;refine Tt.o.mono ?_;rintro en w8 ⟨rfl,hb8⟩;have O8:=af (O7.o.below hb8);have B8:=af (B7.o.trans (hb8.mono B7.o.size));clear hb8 Tt hz0 hf0 Iq
   cases hv:bC L6 with
   | true =>
    have hF:oL m l f=(L6,0):=by rw [HV3.o,hv];rfl
    clear hv;go_wp2_with fail;go_ret2;rw [hF];exact ⟨_,rfl,O8.o,B8.o⟩
   | false =>
    have hF:oL m l f=(l,2):=by rw [HV3.o,hv];rfl
    clear hv;go_wp2_with fail;refine (HC.o _ B8.o).mono ?_;rintro en w9 ⟨u9,rfl,hO,hb⟩;have B9:=af (B8.o.trans (hb.mono B8.o.size));have HO:=af hO;clear hb hO;go_wp2_with fail;go_ret2;rw [hF];exact ⟨_,rfl,HO.o.mono B8.o.size,B9.o⟩
  have hrb:(rf != 0)=true:=by simpa using hr0
  have hF:oL m l f=(l,1):=by rw [HV.o,if_pos (.inr (by omega))]
  clear hr0 abm htb;go_wp2_with fail;refine (HC.o _ B4.o).mono ?_;rintro en w9 ⟨u9,rfl,hO,hb⟩;have B9:=af (B4.o.trans (hb.mono B4.o.size));have HO:=af hO;clear hb hO;go_wp2_with fail;go_ret2;rw [hF];exact ⟨_,rfl,HO.o.mono B4.o.size,B9.o⟩
 | false =>
  refine (j_ _ _).mono ?_;rintro en w3 ⟨rfl,rfl⟩;rw [htb];have hF:oL m l f=(l,1):=by rw [HV.o,if_pos (.inl htb)]
  clear htb abm;go_wp2_with fail;refine (HC.o _ B4.o).mono ?_;rintro en w9 ⟨u9,rfl,hO,hb⟩;have B9:=af (B4.o.trans (hb.mono B4.o.size));have HO:=af hO;clear hb hO;go_wp2_with fail;go_ret2;rw [hF];exact ⟨_,rfl,HO.o.mono B4.o.size,B9.o⟩
end Go.Proofs.YtmmjmckajcfffaaGreatDoor
