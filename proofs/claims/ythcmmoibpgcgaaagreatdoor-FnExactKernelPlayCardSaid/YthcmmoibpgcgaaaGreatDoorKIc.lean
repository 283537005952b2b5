/- KI9, KI10, KI11, KI13, KI14, joined. -/
import Derived.Test.YthcmmoibpgcgaaaGreatDoorKWa
import Derived.Test.YthcmmoibpgcgaaaGreatDoorShelf
set_option maxHeartbeats 2000000
set_option linter.all false
open List renaming take_succ_eq_append_getElem->A1,length_append->A2,getElem_mem->A3,replicate->A4,length_filter_le->A5
open Nat renaming le_trans->A6,zero_le->A9
open Bool renaming and_eq_true->A'
open Go.Value renaming slice->A0
open Go.Proofs.Tryz
namespace Go.Proofs.YthcmmoibpgcgaaaGreatDoor
open Go.RowKit Go.Sort Kx
theorem xg (d:Array Int) (hs:∀ i j,i<j->j<d.size->d[i]!<=d[j]!):∀ m,m<=d.size ->
  (Lib.compactUpTo d m).Pairwise (· < ·)/\∀ x,x ∈ Lib.compactUpTo d m↔∃ j,j<m/\d[j]! = x
 | 0,_=>by simp [Lib.compactUpTo]
 | m+1,h=>by
  obtain ⟨h1,h2⟩:=xg d hs m (by omega);rw [Lib.compactUpTo_succ]
  by_cases hk:Lib.keeps d m=true
  ·rw [if_pos hk];constructor
   ·rw [List.pairwise_append];refine ⟨h1,by simp,fun a ha b hb=>?_⟩
    obtain rfl:b=d[m]!:=by simpa using hb
    obtain ⟨j,hj,rfl⟩:=(h2 a).1 ha;have hm:m≠0:=by omega
    unfold Lib.keeps at hk;have hne:d[m]!≠d[m - 1]!:=by simpa [hm] using hk
    have h3:=hs (m - 1) m (by omega) (by omega)
    by_cases e:j=m - 1
    ·subst e;omega
    have:=hs j (m - 1) (by omega) (by omega);omega
   intro x;rw [List.mem_append,h2];constructor
   ·rintro (⟨j,hj,rfl⟩ | hx)
    ·exact ⟨j,by omega,rfl⟩
    exact ⟨m,by omega,(List.mem_singleton.1 hx).symm⟩
   rintro ⟨j,hj,rfl⟩
   by_cases e:j=m
   ·subst e;exact .inr (by simp)
   exact .inl ⟨j,by omega,rfl⟩
  rw [if_neg hk,List.append_nil];refine ⟨h1,fun x=>?_⟩
  rw [h2];have hk':m≠0/\d[m]! = d[m - 1]!:=by
   unfold Lib.keeps at hk;simpa using hk
  constructor
  ·rintro ⟨j,hj,e⟩;exact ⟨j,by omega,e⟩
  rintro ⟨j,hj,rfl⟩
  by_cases e:j=m
  ·subst e;exact ⟨j - 1,by omega,hk'.2.symm⟩
  exact ⟨j,by omega,rfl⟩
theorem yY (zs:List Int) (hs:zs.Pairwise (·<=·)):(Lib.compact zs).Pairwise (· < ·)/\∀ x,x ∈ Lib.compact zs↔x ∈ zs:=by
 have:=xg zs.toArray (fun i j hij hj=>by
  have hj':j<zs.length:=by simpa using hj
  have:=List.pairwise_iff_getElem.1 hs i j (by omega) hj' hij
  rw [getElem!_pos zs.toArray i (by simp;omega),getElem!_pos zs.toArray j hj];simpa using this) zs.length (by simp)
 unfold Lib.compact;refine ⟨this.1,fun x=>?_⟩
 rw [this.2];constructor
 ·rintro ⟨j,hj,rfl⟩;rw [getElem!_pos zs.toArray j (by simpa using hj)];simp
 intro hx;obtain ⟨j,hj,rfl⟩:=List.getElem_of_mem hx;exact ⟨j,hj,by rw [getElem!_pos zs.toArray j (by simpa using hj)];simp⟩
theorem lt_eq {l l':List Int} (h:l.Pairwise (· < ·)) (h':l'.Pairwise (· < ·)) (hm:∀ x,x ∈ l↔x ∈ l'):l=l':=by
 have n1:l.Nodup:=h.imp fun {a b} h=>by omega
 have n2:l'.Nodup:=h'.imp fun {a b} h=>by omega
 exact List.Perm.eq_of_pairwise (le:=fun a b=>a<b) (fun a b _ _ h1 h2=>by omega) h h' ((List.perm_ext_iff_of_nodup n1 n2).2 hm)
theorem Gy {l:List Nat} {x:Int}:x ∈ fU l↔∃ n ∈ l,(n:Int)=x:=by unfold fU;simp
theorem qh (xs:List Nat) (h:∀ x ∈ xs,x<12):Lib.compact ((fU xs).mergeSort fun x y=>decide (x<=y))=fU (fE xs):=by
 have hp:((fU xs).mergeSort fun x y=>decide (x<=y)).Pairwise (·<=·):=
  (List.pairwise_mergeSort (le:=fun x y=>decide (x<=y)) (fun a b c h1 h2=>by simp only [decide_eq_true_eq] at *;omega) (fun a b=>by simp only [Bool.or_eq_true,decide_eq_true_eq];omega) (fU xs)).imp fun {a b} h=>by simpa using h
 obtain ⟨h1,h2⟩:=yY _ hp;refine lt_eq h1 ?_ fun x=>?_
 ·unfold fU fE;rw [List.pairwise_map];exact (List.Pairwise.filter _ List.pairwise_lt_range).imp fun {a b} h=>by omega
 rw [h2,(List.mergeSort_perm _ _).mem_iff,Gy,Gy];unfold fE;constructor
 ·rintro ⟨n,hn,rfl⟩;exact ⟨n,List.mem_filter.2 ⟨by simpa using h n hn,by simpa using hn⟩,rfl⟩
 rintro ⟨n,hn,rfl⟩;exact ⟨n,by simpa using (List.mem_filter.1 hn).2,rfl⟩
theorem Gz (zs:List Int) (base:Nat) (v:Value) (w:World) (h:OI w base v zs) :
  Calls prog 145 #[v] w fun e w'=>e=.returned (.tuple #[])/\OI w' base v (zs.mergeSort fun x y=>decide (x<=y))/\w.grownBy w' v.ownBlock:=by
 obtain ⟨⟨h0,h1⟩,h2⟩:=h;rcases h1 with ⟨rfl,hn⟩ | ⟨g,cap,cur,rfl,hb,hg,hnc,hcm,hcs,htake⟩
 ·obtain rfl:zs=[]:=List.eq_nil_of_length_eq_zero hn;have hc:=Any.slices_Sort_int_none lays189 none 0 w;change Calls prog 145 _ _ _ at hc;refine hc.mono ?_;rintro e w' ⟨rfl,rfl⟩;exact ⟨rfl,by rw [List.mergeSort_nil];exact OI.nil _ _,World.grownBy.refl _ _⟩
 have hc:=Any.slices_Sort_int lays189 g 0 cap zs w (holds_of_blockI hg (by rw [<-Nat.mul_one zs.length];exact htake)) (Array.getElem?_eq_some_iff.1 hg).1 (by omega);change Calls prog 145 _ _ _ at hc;refine hc.mono ?_;rintro e w' ⟨rfl,n,os,rfl⟩;refine ⟨rfl,?_,grownBy_sortedI _⟩;have hl:(zs.mergeSort fun x y=>decide (x<=y)).length=zs.length:=List.length_mergeSort ..
 have ho:=ownsRow_sortedI (n:=n) (os:=os) hl hb hg hnc hcm hcs;refine ⟨?_,by rw [hl];exact h2⟩;rw [hl];exact ho
theorem Eb (zs:List Int):(Lib.compact zs).length<=zs.length:=by
 unfold Lib.compact Lib.compactUpTo;rw [List.length_map];exact A6 (A5 _ _) (by simp)
theorem yZ (zs:List Int) (base:Nat) (v:Value) (w:World) (h:OI w base v zs) :
  Calls prog 146 #[v] w fun e w'=>∃ u,e=.returned u/\OI w' base u (Lib.compact zs)/\w.grownBy w' v.ownBlock:=by
 obtain ⟨⟨h0,h1⟩,h2⟩:=h;rcases h1 with ⟨rfl,hn⟩ | ⟨g,cap,cur,rfl,hb,hg,hnc,hcm,hcs,htake⟩
 ·obtain rfl:zs=[]:=List.eq_nil_of_length_eq_zero hn;have hc:=Any.slices_Compact_int_empty laysNm220 none 0 w;change Calls prog 146 _ _ _ at hc;refine hc.mono ?_;rintro e w' ⟨rfl,rfl⟩;exact ⟨_,rfl,by rw [show Lib.compact ([]:List Int)=[] from rfl];exact OI.nil _ _,World.grownBy.refl _ _⟩
 have hc:=Any.slices_Compact_int laysNm220 g 0 cap zs w (holds_of_blockI hg (by rw [<-Nat.mul_one zs.length];exact htake)) (by omega) hnc;change Calls prog 146 _ _ _ at hc;refine hc.mono ?_;rintro e w' ⟨rfl,n,rfl⟩;have hl:=Eb zs;have hd:(Lib.compact zs ++ A4 (zs.length - (Lib.compact zs).length) 0).length=zs.length:=by simp;omega
 have hgr:=grownBy_sortedI (w:=w) (g:=g) (n:=n) (os:=#[]) (Lib.compact zs ++ A4 (zs.length - (Lib.compact zs).length) 0).toArray;rw [grow_empty] at hgr;have ho:=ownsRow_sortedI (n:=n) (os:=#[]) hd hb hg hnc hcm hcs;rw [grow_empty] at ho;refine ⟨_,rfl,⟨⟨by simp [ints],.inr ?_⟩,by omega⟩,hgr⟩;rcases ho.2 with ⟨e,_⟩ | ⟨g',cap',cur',e,hb',hg',_,_,hcs',ht'⟩
 ·cases e
 obtain ⟨⟨rfl,_⟩,_,rfl⟩:=Zb e;clear e;refine ⟨g,cap,cur',rfl,hb,hg',by omega,hcm,hcs',?_⟩;have:=congrArg (List.take (Lib.compact zs).length) ht';rw [List.take_take,Nat.mul_one,Nat.min_eq_left hl] at this;rw [Nat.mul_one,this];simp [ints,List.map_append]
theorem A8 {m:List (List Int)} (hm:bW m=true):∀ (fs:List Nat),(∀ f ∈ fs,f<12)->(fs.flatMap fun f=>ax (Kx.row m f)).length<=4*fs.length
 | [],_=>by simp
 | f :: fs,h=>by
  have h1:=A8 hm fs fun x hx=>h x (List.mem_cons_of_mem _ hx)
  have h4:=(mem_row hm (h f (List.mem_cons_self ..))).2.1;have h2:(ax (Kx.row m f)).length<=(Kx.row m f).length:=by unfold ax;exact List.length_filterMap_le _ _
  rw [List.flatMap_cons,A2,List.length_cons];omega
theorem NG {m:List (List Int)} {fs:List Nat}:∀ x ∈ fs.flatMap (fun f=>ax (Kx.row m f)),x<12:=fun x hx=>by
 obtain ⟨f,_,hf⟩:=List.mem_flatMap.1 hx;exact kE hf
theorem Cm (m:List (List Int)) (fs:List Nat) (vm v:Value) (w:World) (hm:RM w vm m) (hmo:bW m=true) (h:RI w v (fU fs)) (hlt:∀ f ∈ fs,f<12) (hl:fs.length<=12) :
  Calls prog 144 #[vm,v] w (mZ w (fU (fE (fs.flatMap fun f=>ax (Kx.row m f))))):=by
 have Hc:=af (qh _ (NG (m:=m) (fs:=fs)));obtain ⟨_,am,cm,rfl,_,_⟩:=hm.len;obtain ⟨a,cap,rfl⟩:=h.val;have Hm:=af hm;have H:=af h;have Js:=af hlt;have kG:=af hmo;have Ub:=af (show ∀ k,k<=fs.length->((fs.take k).flatMap fun f=>ax (Kx.row m f)).length<=4*k from fun k hk=>by
  have:=A8 hmo (fs.take k) fun f hf=>hlt f (List.mem_of_mem_take hf)
  rw [List.length_take,Nat.min_eq_left hk] at this;exact this)
 obtain ⟨n,hn⟩:=XP ((fU fs).length);have Hn:=af (show fs.length=n by rw [<-hn,aQ]);have Xv:n<=12:=by have:=Hn.o;omega
 have kX:=af (show m.length=12 from (jC.1 hmo).1);rw [hn] at H ⊢;clear hm h hlt hmo hn hl;go_enter func144,ntmps144;go_wp2_with fail;go_loopw [5,15] (fun out i wr=>∃ k:Nat,i=I_ k/\k<=n/\TI (OS iR 1 3 wr w.heap.size out (fU ((fs.take k).flatMap fun f=>ax (Kx.row m f))))/\TI (Below w.heap.size w wr)) (fun _ i _=>n - (intOf i).toNat)
 case atStart=>exact ⟨0,rfl,A9 _,(OI.nil _ _).os,Below.refl _ _⟩
 case round =>
  obtain ⟨k,rfl,hk,ho,hb⟩:=hrel
  by_cases hlt:k<n
  ·have Np:k<fs.length:=by have:=Hn.o;omega
   have hko:k<(fU fs).length:=by rw [aQ];exact Np
   obtain ⟨b,off,cap',e,_,hc⟩:=(H.o.below hb.o).at hko;rw [aQ,Hn.o] at e;obtain ⟨rfl,_,rfl⟩:=Za e;clear e;have kQ:(k:Int)<(n:Int):=by omega
   have dG:=Js.o _ (A3 Np);have htk:fs.take (k+1)=fs.take k ++ [fs[k]]:=by rw [A1 Np]
   rw [nI fs k hko Np] at hc;generalize fs[k]=f at hc dG htk;have Hs:=af (show (fs.take (k+1)).flatMap (fun f=>ax (Kx.row m f))=(fs.take k).flatMap (fun f=>ax (Kx.row m f)) ++ ax (Kx.row m f) by rw [htk];simp)
   have Y_:=af (Ub.o k (by omega));obtain ⟨b2,mP,cap2,u2,e,hc2',hr2⟩:=Hm.o.row kG.o dG;have hc2:=(hb.o.cell (p:=⟨b2,mP+f,none⟩) (World.block_lt_of_cell? w _ hc2')).trans hc2';rw [<-kX.o] at e;obtain ⟨rfl,_,rfl⟩:=Za e;clear e;have wJ:(f:Int)<(m.length:Int):=by rw [kX.o];omega
   obtain ⟨hmx,h4,hw⟩:=mem_row kG.o dG;have H4:=af h4;have Hw:=af hw;obtain ⟨a3,c3,rfl⟩:=hr2.val;rw [h4] at hc2 hr2;have vW:=af hr2;clear htk h4 hw hr2 hc2' hmx;generalize (fs.take k).flatMap (fun f=>ax (Kx.row m f))=ys at ho Hs Y_
   generalize Kx.row m f=row at Hs H4 Hw vW;go_wp2_with fail;go_loopw [5,24] (fun out i wi=>∃ j:Nat,i=I_ j/\j<=4/\TI (OS iR 1 3 wi w.heap.size out (fU (ys ++ ax (row.take j))))/\TI (Below w.heap.size w wi)) (fun _ i _=>4 - (intOf i).toNat)
   case atStart=>exact ⟨0,rfl,A9 _,by simpa [TI,ax] using ho.o,hb.o⟩
   case round =>
    clear hc hc2 ho hb;obtain ⟨j,rfl,hj,ho2,hb2⟩:=hrel
    by_cases hjl:j<4
    ·have hjr:j<row.length:=by rw [H4.o];exact hjl
     have Q5:(j:Int)<4:=by omega
     obtain ⟨b4,Xw,cap4,e,_,hc4⟩:=(vW.o.below hb2.o).at hjr;rw [H4.o] at e;obtain ⟨rfl,_,rfl⟩:=Za e;clear e;have htj:row.take (j+1)=row.take j ++ [row[j]]:=by rw [A1 hjr]
     have Oq:=Hw.o _ (A3 hjr);generalize row[j]=x at hc4 htj Oq;obtain ⟨hx0,Oq⟩:=Oq;have hnt:ys ++ ax (row.take (j+1))=(ys ++ ax (row.take j)) ++ ax [x]:=by rw [htj];simp [ax]
     have hl2:(ys ++ ax (row.take j)).length<=100:=by
      have h1:(ax (row.take j)).length<=j:=A6 (by unfold ax;exact List.length_filterMap_le _ _) (List.length_take_le _ _);have h2:=Y_.o;rw [A2];omega
     have Xx:=af hnt;have Hl2:=af hl2;clear hnt hl2 htj;generalize ys ++ ax (row.take j)=zs at ho2 Xx Hl2
     cases he:Kx.entry x with
     | none =>
      have Hx:=af (show ax [x]=[] by simp [ax,he]);have He:=af he;clear he;go_wp2_with fail;refine (bZ _ _ (by omega)).mono ?_;rintro e w' ⟨rfl,rfl⟩;rw [G7 He.o];go_wp2_with fail;go_roundw
      case rel=>exact ⟨j+1,by go_num,by omega,by show OS _ _ _ _ _ _ _;rw [Xx.o,Hx.o,List.append_nil];exact ho2.o,hb2.o⟩
      case measure=>simp [intOf];omega
     | some p =>
      obtain ⟨g,c⟩:=p;have Hx:=af (show ax [x]=[g] by simp [ax,he]);have He:=af he;clear he;have hsz:=af hb2.o.size;have hsz2:=af (show w.heap.size<=(wr.alloc (.cells #[I_ (g:Int)] 3)).heap.size by simp;exact Nat.le_succ_of_le hsz.o);have hR:=af (RS.one (f:=iR) (sz:=1) (g:Int) #[I_ (g:Int)] rfl wr 3);have hL:=af (show (fU zs).length+[(g:Int)].length<=1099511627776 by rw [aQ];have:=Hl2.o;simp;omega);go_wp2_with fail;refine (bZ _ _ (by omega)).mono ?_;rintro e w' ⟨rfl,rfl⟩;rw [C_ He.o];go_wp2_with (at_builtin;refine aV wK rfl _ _ rfl w.heap.size _ (fU zs) rfl (ho2.o.alloc _) _ [(g:Int)] rfl hR.o hL.o hsz2.o ?_;intro v' w3 ho3 hg3 hn3;have jJ:=af ho3;have ql:=af hg3;clear ho3 hg3 hn3);go_roundw
      case rel =>
       refine ⟨j+1,by go_num,by omega,?_,?_⟩
       ·show OS _ _ _ _ _ _ _;rw [Xx.o,Hx.o,jv];exact jJ.o
       exact Below.dN (hb2.o.alloc hb2.o.size _) (ho2.o.alloc _) ql.o aW hsz2.o
      case measure=>simp [intOf];omega
    have Xy:j=4:=by omega
    subst Xy;have Ht:=af (show ys ++ ax (row.take 4)=ys ++ ax row by rw [List.take_of_length_le (by rw [H4.o];omega)]);go_wp2_with fail;go_roundw
    case rel=>exact ⟨k+1,by go_num,by omega,by show OS _ _ _ _ _ _ _;rw [Hs.o,<-Ht.o];exact ho2.o,hb2.o⟩
    case measure=>simp [intOf];omega
  have hkn:k=n:=by omega
  subst hkn;have htk:fs.take k=fs:=List.take_of_length_le (by have:=Hn.o;omega);have Rh:=ho.o.oi;rw [htk] at Rh;have Uc:=af Rh;clear Rh htk;go_wp2_with fail;refine (Gz _ _ _ _ Uc.o).mono ?_;rintro e w4 ⟨rfl,iV,hg4⟩;have kH:=af iV;have B4:=af (Below.mark hb.o Uc.o hg4 aW hb.o.size);clear iV hg4;go_wp2_with fail;refine (yZ _ _ _ _ kH.o).mono ?_;rintro e w5 ⟨u5,rfl,zK,hg5⟩;have OY:=af zK;have B5:=af (Below.mark B4.o kH.o hg5 aW B4.o.size);clear zK hg5;go_wp2_with fail;go_ret;refine ⟨_,rfl,?_,B5.o⟩;rw [<-Hc.o];exact OY.o
theorem xh (m:List (List Int)) (r:Nat):fE (([r]:List Nat).flatMap fun f=>ax (Kx.row m f))=Kx.tables m r:=by simp [Kx.tables]
theorem og (m:List (List Int)) (root:Int) (v:Value) (w:World) (h:RM w v m) (hm:bW m=true) (hr:root<=11) :
  Calls prog 65 #[v,I_ root] w (mZ w (fU (Kx.reach m root))):=by
 by_cases h0:root<0
 ·have hw:=af (show Kx.reach m root=[] by unfold Kx.reach;rw [if_pos h0]);obtain ⟨_,a,cap,rfl,_,_⟩:=h.len;go_enter func65,ntmps65;go_wp2_with fail;go_ret;refine ⟨_,rfl,?_,Below.refl _ _⟩;rw [hw.o];exact OI.nil _ _
 obtain ⟨r,rfl⟩:=Int.eq_ofNat_of_zero_le (show 0<=root by omega);have D_:r<12:=by omega
 have hw:=af (show Kx.reach m (r:Int)=fE (r :: (Kx.tables m r ++ fO m r)) by unfold Kx.reach;rw [if_neg h0];simp);have Hcs:=af (qh (r :: (Kx.tables m r ++ fO m r)) (fun x hx=>by
  have:x ∈ Kx.reach m (r:Int)\/x<12:=by
   rcases List.mem_cons.1 hx with rfl | hx
   ·exact .inr D_
   rcases List.mem_append.1 hx with hx | hx
   ·unfold Kx.tables fE at hx;exact .inr (by simpa using (List.mem_filter.1 hx).1)
   unfold fO fE at hx;exact .inr (by simpa using (List.mem_filter.1 hx).1)
  rcases this with h | h
  ·exact jK x h
  exact h))
 obtain ⟨w1,hw1⟩:=XP (w.alloc (.cells #[I_ (r:Int)] 3));have B1:=af (show Below w.heap.size w w1 from hw1 ▸ dm);have H1:=af (show OS iR 1 3 w1 w.heap.size (A0 (some ⟨w.heap.size,0,none⟩) 1 1) [(r:Int)] from hw1 ▸ OS.lit (l:=[(r:Int)]) aW _ rfl rfl (by simp));obtain ⟨w2,hw2⟩:=XP (w1.alloc (.cells #[I_ (r:Int)] 3));have B2:=af (show Below w1.heap.size w1 w2 from hw2 ▸ dm);have H2:=af (show RI w2 (A0 (some ⟨w1.heap.size,0,none⟩) 1 1) (fU [r]) from RI.rs (hw2 ▸ RS.one (f:=iR) (sz:=1) (r:Int) #[I_ (r:Int)] rfl w1 3));have FD:=af (B1.o.trans (B2.o.mono B1.o.size));have HN:=af (Cm m [r] v _ w2 (h.below FD.o) hm H2.o (by simpa using D_) (by simp));rw [xh] at HN;have fJ:=af (H1.o.below B2.o);have Hh:=af h;have Hm:=af hm
 have Hl:=af (show (Kx.tables m r).length<=12/\(fO m r).length<=12 from ⟨A6 (A5 _ _) (by simp),A6 (A5 _ _) (by simp)⟩);have Xz:=af (show ∀ x ∈ Kx.tables m r,x<12 from fun x hx=>by
  unfold Kx.tables fE at hx;simpa using (List.mem_filter.1 hx).1)
 have hfr:=af (show fO m r=fE ((Kx.tables m r).flatMap fun f=>ax (Kx.row m f)) from rfl)
 obtain ⟨_,a,cap,rfl,_,_⟩:=h.len;clear h hm;go_enter func65,ntmps65;go_wp2_with fail;refine HN.o.mono ?_;rintro e w3 ⟨u3,rfl,ho,hb⟩;have jJ:=af ho.os;have Za:=af (fJ.o.below hb);have B3:=af (FD.o.trans (hb.mono FD.o.size));have HL:=af (show [(r:Int)].length+(fU (Kx.tables m r)).length<=1099511627776 by rw [aQ];have:=Hl.o;simp;omega);clear ho hb HN hw1 hw2;go_wp2_with (at_builtin;refine aV wK rfl _ _ rfl w.heap.size _ [(r:Int)] rfl Za.o _ (fU (Kx.tables m r)) rfl jJ.o.rs HL.o B3.o.size ?_;intro v4 w4 iV hg4 hn4;have kH:=af iV;have B4:=af (Below.dN B3.o Za.o hg4 aW B3.o.size);clear iV hg4 hn4);obtain ⟨w5,hw5⟩:=XP (w4.alloc (.cells #[I_ (r:Int)] 3));have Zc:=af (show Below w4.heap.size w4 w5 from hw5 ▸ dm)
 have H5:=af (show RI w5 (A0 (some ⟨w4.heap.size,0,none⟩) 1 1) (fU [r]) from RI.rs (hw5 ▸ RS.one (f:=iR) (sz:=1) (r:Int) #[I_ (r:Int)] rfl w4 3));have B5:=af (B4.o.trans (Zc.o.mono B4.o.size));have HN:=af (Cm m [r] _ _ w5 (Hh.o.below B5.o) Hm.o H5.o (by simpa using D_) (by simp));rw [xh] at HN;have OY:=af (kH.o.below Zc.o);rw [hw5];refine HN.o.mono ?_;rintro e w6 ⟨u6,rfl,ho,hb⟩;have Ri:=af ho;have Hv6:=af (OY.o.below hb);have B6:=af (B5.o.trans (hb.mono B5.o.size));clear ho hb HN hw5;have HN:=af (Cm m (Kx.tables m r) _ u6 w6 (Hh.o.below B6.o) Hm.o Ri.o.ri Xz.o Hl.o.1);rw [<-hfr.o] at HN;go_wp2_with fail;refine HN.o.mono ?_;rintro e w7 ⟨u7,rfl,ho,hb⟩;have Ho7:=af ho.os;have Zd:=af (Hv6.o.below hb);have B7:=af (B6.o.trans (hb.mono B6.o.size))
 have HL2:=af (show ([(r:Int)] ++ fU (Kx.tables m r)).length+(fU (fO m r)).length<=1099511627776 by rw [A2,aQ,aQ];have:=Hl.o;simp;omega);clear ho hb HN;go_wp2_with (at_builtin;refine aV wK rfl _ _ rfl w.heap.size _ ([(r:Int)] ++ fU (Kx.tables m r)) rfl Zd.o _ (fU (fO m r)) rfl Ho7.o.rs HL2.o B7.o.size ?_;intro v8 w8 xE J5 hn8;have Ot:=af xE;have B8:=af (Below.dN B7.o Zd.o J5 aW B7.o.size);clear xE J5 hn8);have H8:=af (show OI w8 w.heap.size v8 (fU (r :: (Kx.tables m r ++ fO m r))) by
  have:=Ot.o.oi
  rw [List.append_assoc,<-jv] at this;exact this)
 refine (Gz _ _ _ _ H8.o).mono ?_;rintro e w9 ⟨rfl,Rh,UQ⟩;have Uc:=af Rh;have B9:=af (Below.mark B8.o H8.o UQ aW B8.o.size);clear Rh UQ;go_wp2_with fail;refine (yZ _ _ _ _ Uc.o).mono ?_;rintro e w10 ⟨u10,rfl,Ud,Ue⟩;have XA:=af Ud;have B10:=af (Below.mark B9.o Uc.o Ue aW B9.o.size);clear Ud Ue;go_wp2_with fail;go_ret;refine ⟨_,rfl,?_,B10.o⟩;rw [hw.o,<-Hcs.o];exact XA.o
def mQ (m:List (List Int)) (l:List aG) (f i g:Nat):Nat:=((List.range f).map (oW m l g)).sum+(ax ((Kx.row m f).take i)).count g
theorem IP (m:List (List Int)) (l:List aG) (f g:Nat):mQ m l f 0 g=cnt m l f 0 g:=by simp [mQ,cnt,ax]
theorem IQ (m:List (List Int)) (l:List aG) (f g:Nat) (h4:(Kx.row m f).length=4) (ht:aX (Kx.inf l f).kind=true):cnt m l (f+1) 0 g=mQ m l f 4 g:=by
 rw [Ec m l f g ht];unfold cnt mQ;rw [List.take_length,List.take_of_length_le (by omega)]
theorem IR (m:List (List Int)) (l:List aG) (f i g:Nat) (x:Int) (hi:i<(Kx.row m f).length) (hx:(Kx.row m f)[i]=x):mQ m l f (i+1) g=mQ m l f i g+(ax [x]).count g:=by
 unfold mQ;have:ax ((Kx.row m f).take (i+1))=ax ((Kx.row m f).take i) ++ ax [x]:=by
  rw [A1 hi,hx];simp [ax]
 rw [this,List.count_append];omega
theorem NH (m:List (List Int)) (l:List aG) (hm:∀ f,f<12->(Kx.row m f).length=4) (f i g:Nat) (hf:f<=12):mQ m l f i g<=4*f+i:=by
 unfold mQ;have h1:((List.range f).map (oW m l g)).sum<=f*4:=CB fun j hj=>by
  unfold oW;split
  ·exact A6 (Kx.count_le _ _) (by rw [hm j (by omega)];omega)
  omega
 have h2:(ax ((Kx.row m f).take i)).count g<=i:=A6 List.count_le_length (A6 (by unfold ax;exact List.length_filterMap_le _ _) (List.length_take_le _ _));omega
theorem GZ (m:List (List Int)) (l:List aG) (vm v:Value) (w:World) (hm:RM w vm m) (hmo:bW m=true) (h:bV w v l) (h12:l.length=12) :
  Calls prog 61 #[vm,v] w (mZ w (Kx.counts m l)):=by
 obtain ⟨a,cap,rfl,_,_⟩:=RS.val h;obtain ⟨_,a2,cap2,rfl,_,_⟩:=hm.len;have hrow4:=af (show ∀ f,f<12->(Kx.row m f).length=4 from fun f hf=>(mem_row hmo hf).2.1)
 have kX:=af (mem_row hmo (show 0<12 by omega)).1;have H:=af h;have Hm:=af hm;have fJ:=af h12;have kG:=af hmo;have Qy:=af (GG m l);have hmk:∀ w:World,(Instr.makeSlice 29 (I_ 12) (I_ 12)).run prog w=.ok (A0 (some ⟨w.heap.size,0,none⟩) 12 12) (w.alloc (.cells #[I_ 0,I_ 0,I_ 0,I_ 0,I_ 0,I_ 0,I_ 0,I_ 0,I_ 0,I_ 0,I_ 0,I_ 0] 3)):=fun _=>by kernel_rfl
 have H0:=af (show OS iR 1 3 (w.alloc (.cells #[I_ 0,I_ 0,I_ 0,I_ 0,I_ 0,I_ 0,I_ 0,I_ 0,I_ 0,I_ 0,I_ 0,I_ 0] 3)) w.heap.size (A0 (some ⟨w.heap.size,0,none⟩) 12 12) (dL (cnt m l 0 0)) by
  have e:dL (cnt m l 0 0)=[0,0,0,0,0,0,0,0,0,0,0,0]:=by
   rw [gU (F':=fun _=>0) (fun g _=>Ed m l g)];rfl
  rw [e];exact OS.lit (l:=[0,0,0,0,0,0,0,0,0,0,0,0]) aW _ rfl rfl (by simp))
 clear h hm h12 hmo;go_enter func61,ntmps61;go_wp2_with fail;clear hmk;go_loopw [16] (fun i wr=>∃ f:Nat,i=I_ f/\f<=l.length/\TI (OS iR 1 3 wr w.heap.size (A0 (some ⟨w.heap.size,0,none⟩) 12 12) (dL (cnt m l f 0)))/\TI (Below w.heap.size w wr)) (fun i _=>l.length - (intOf i).toNat)
 case atStart=>exact ⟨0,rfl,A9 _,H0.o,fZ.alloc aW _⟩
 case round =>
  clear H0;obtain ⟨f,rfl,hf,ho,hb⟩:=hrel
  by_cases hlt:f<l.length
  ·obtain ⟨b5,XB,cap5,e,_,h1,h2,h3⟩:=bV.at (RS.below H.o hb.o) hlt;obtain ⟨rfl,_,rfl⟩:=Za e;clear e;have hfl:(f:Int)<(l.length:Int):=by omega
   have dG:f<12:=by have:=fJ.o;omega
   have Ze:=af (show ∀ b,aX (Kx.inf l f).kind=b->aX (Kx.inf l f).kind=b from fun _ h=>h)
   have O4:=af (show aX (Kx.inf l f).kind=aX (Kx.inf l f).kind from rfl)
   cases ht:aX (Kx.inf l f).kind with
   | false =>
    have GH:=af (show dL (cnt m l (f+1) 0)=dL (cnt m l f 0) from gU fun g _=>Ee m l f g ht)
    have Ht:=af ht;clear ht Ze O4;generalize Kx.inf l f=y at h1 h2 h3 Ht;obtain ⟨W1,hW1⟩:=XP (wr.alloc (.cells #[I_ y.kind,.string y.guard,I_ y.refs] 98));have B1:=af (show Below wr.heap.size wr W1 from hW1 ▸ dm);obtain ⟨c0,c1,c2⟩:=(show W1.cell? ⟨wr.heap.size,0,none⟩=some (I_ y.kind)/\W1.cell? ⟨wr.heap.size,1,none⟩=some (.string y.guard)/\W1.cell? ⟨wr.heap.size,2,none⟩=some (I_ y.refs) from hW1 ▸ Dh.new wr _ _ _ _);go_wp2_with (go_at_call 66;refine (j_ _ _).mono ?_;rintro e w' ⟨rfl,rfl⟩;rw [Ht.o]);go_roundw
    case rel=>exact ⟨f+1,by go_num,by omega,by show OS _ _ _ _ _ _ _;rw [GH.o];exact ho.o.below B1.o,hb.o.trans (B1.o.mono hb.o.size)⟩
    case measure=>simp [intOf];omega
   | true =>
    obtain ⟨b2,mP,cap3,u2,e,hc2',hr2⟩:=Hm.o.row kG.o dG;have hc2:=(hb.o.cell (p:=⟨b2,mP+f,none⟩) (World.block_lt_of_cell? w _ hc2')).trans hc2';have Uf:=World.block_lt_of_cell? w _ hc2';rw [<-kX.o] at e;obtain ⟨rfl,_,rfl⟩:=Za e;clear e;have hfm:(f:Int)<(m.length:Int):=by rw [kX.o];omega
    have h4:=hrow4.o f dG;obtain ⟨a3,c3,rfl⟩:=hr2.val;rw [h4] at hc2 hr2;have DW:=af (show dL (cnt m l (f+1) 0)=dL (mQ m l f 4) from gU fun g _=>IQ m l f g h4 ht)
    have H4:=af h4;have vW:=af hr2;have Ht:=af ht;have Hw:=af (mem_row kG.o dG).2.2;have XC:=af (fun i g=>NH m l hrow4.o f i g (by omega))
    have XD:=af (show dL (cnt m l f 0)=dL (mQ m l f 0) from gU fun g _=>(IP m l f g).symm)
    have Hws:=af (fun i g x hi hx=>IR m l f i g x hi hx);clear ht Ze O4 h4 hr2 hc2';generalize Kx.inf l f=y at h1 h2 h3 Ht;generalize Kx.row m f=row at H4 vW Hw Hws;obtain ⟨W1,hW1⟩:=XP (wr.alloc (.cells #[I_ y.kind,.string y.guard,I_ y.refs] 98));have B1:=af (show Below wr.heap.size wr W1 from hW1 ▸ dm);obtain ⟨c0,c1,c2⟩:=(show W1.cell? ⟨wr.heap.size,0,none⟩=some (I_ y.kind)/\W1.cell? ⟨wr.heap.size,1,none⟩=some (.string y.guard)/\W1.cell? ⟨wr.heap.size,2,none⟩=some (I_ y.refs) from hW1 ▸ Dh.new wr _ _ _ _);have jH:=af (hb.o.trans (B1.o.mono hb.o.size));have XE:W1.cell? ⟨b2,mP+f,none⟩=some (A0 a3 4 c3):=(B1.o.cell (p:=⟨b2,mP+f,none⟩) (Nat.lt_of_lt_of_le Uf hb.o.size)).trans hc2;have O_:=af (ho.o.below B1.o);rw [XD.o] at O_;clear hc2 Uf
    go_wp2_with (go_at_call 66;refine (j_ _ _).mono ?_;rintro e w' ⟨rfl,rfl⟩;rw [Ht.o]);go_loopw [30] (fun i wq=>∃ j:Nat,i=I_ j/\j<=4/\TI (OS iR 1 3 wq w.heap.size (A0 (some ⟨w.heap.size,0,none⟩) 12 12) (dL (mQ m l f j)))/\TI (Below w.heap.size w wq)) (fun i _=>4 - (intOf i).toNat)
    case atStart=>exact ⟨0,rfl,A9 _,O_.o,jH.o⟩
    case round =>
     clear c0 c1 c2 XE O_ jH B1 ho hb h1 h2 h3 hW1;obtain ⟨j,rfl,hj,ho,hb⟩:=hrel
     by_cases hjl:j<4
     ·have hjr:j<row.length:=by rw [H4.o];exact hjl
      have Q5:(j:Int)<4:=by omega
      obtain ⟨b4,Xw,cap4,e,_,hc4⟩:=(vW.o.below hb.o).at hjr;rw [H4.o] at e;obtain ⟨rfl,_,rfl⟩:=Za e;clear e;have Oq:=Hw.o _ (A3 hjr);have Hs:=af (fun g=>Hws.o j g row[j] hjr rfl);generalize row[j]=x at hc4 Hs Oq;obtain ⟨hx0,Oq⟩:=Oq
      cases he:Kx.entry x with
      | none =>
       have Hx:=af (show dL (mQ m l f (j+1))=dL (mQ m l f j) from gU fun g _=>by rw [Hs.o];simp [ax,he])
       have He:=af he;clear he;go_wp2_with fail;refine (bZ _ _ (by omega)).mono ?_;rintro e w' ⟨rfl,rfl⟩;rw [G7 He.o];go_wp2_with fail;go_roundw
       case rel=>exact ⟨j+1,by go_num,by omega,by show OS _ _ _ _ _ _ _;rw [Hx.o];exact ho.o,hb.o⟩
       case measure=>simp [intOf];omega
      | some p =>
       obtain ⟨g,c⟩:=p;have zM:=Kx.dU he;have hstep:∀ i,mQ m l f (j+1) i=mQ m l f j i+if i=g then 1 else 0:=fun i=>by
        rw [Hs.o];congr 1
        by_cases e:i=g
        ·simp [ax,he,e]
        simp [ax,he,e,Ne.symm e]
       obtain ⟨b6,cap6,e,_,hcg,hfg⟩:=ho.o.oi.at (k:=g) (by rw [dH];exact zM);obtain ⟨⟨rfl,_,_⟩,yc,rfl⟩:=Zb e;clear e yc;rw [jP] at hcg;have hset:=af (qY (mQ m l f j) (mQ m l f (j+1)) g ((mQ m l f j g:Int)+1) (by rw [hstep,if_pos rfl];omega) (fun i hi=>by rw [hstep,if_neg hi];rfl));have hst:=ho.o.oi.stored (dH _) g ((mQ m l f j g:Int)+1);rw [hset.o] at hst;have uh:=af hst.1;have Vt:(g:Int)<12:=by omega
       have MO:(mQ m l f j g:Int)<=1000:=by have:=XC.o j g;omega
       have He:=af he;clear hst hset hstep he;generalize mQ m l f j g=q at hcg uh MO;go_wp2_with fail;refine (bZ _ _ (by omega)).mono ?_;rintro e w' ⟨rfl,rfl⟩;rw [C_ He.o];go_wp2_with fail;go_roundw
       case rel=>exact ⟨j+1,by go_num,by omega,uh.o.os,hb.o.setCell (p:=⟨w.heap.size,g,none⟩) aW _⟩
       case measure=>simp [intOf];omega
     have Xy:j=4:=by omega
     subst Xy;go_wp2_with fail;go_roundw
     case rel=>exact ⟨f+1,by go_num,by omega,by show OS _ _ _ _ _ _ _;rw [DW.o];exact ho.o,hb.o⟩
     case measure=>simp [intOf];omega
  have dG:f=12:=by have:=fJ.o;omega
  have Ho:=af (show OS iR 1 3 wr w.heap.size (A0 (some ⟨w.heap.size,0,none⟩) 12 12) (Kx.counts m l) by have h9:=ho.o;rw [dG,Qy.o] at h9;exact h9);clear dG;go_wp2_with fail;go_ret;exact ⟨_,rfl,Ho.o.oi,hb.o⟩
def mine (l:List aG) (f:Nat):Bool:=decide ((Kx.inf l f).guard=Kx.sA)&&(Kx.inf l f).refs==1
theorem aI {k:Kx.Kernel} (h:az k=true):bW k.mem=true/\bC k.ag=true/\k.ag.length=12/\dA k.cache=true/\k.ah.length=3/\∀ e,e<3->(au k.ah e).root<=11:=by
 unfold az at h;simp only [A'] at h;obtain ⟨⟨⟨⟨⟨⟨h1,h2⟩,h3⟩,h4⟩,_⟩,_⟩,_⟩:=h;have h12:k.ag.length=12:=by unfold bC at h2;simp only [A'] at h2;simpa using h2.2
 unfold iw at h4;rw [oZ] at h4;simp only [A',List.all_eq_true] at h4;have he:k.ah.length=3:=by simpa using h4.2
 refine ⟨h1,h2,h12,h3,he,fun e hlt=>?_⟩
 have h5:=h4.1 e (by rw [he];simpa using hlt);unfold Ah qw at h5;simp only [A'] at h5;exact (Kx.ay.1 h5.1.1.2).2
end Go.Proofs.YthcmmoibpgcgaaaGreatDoor
