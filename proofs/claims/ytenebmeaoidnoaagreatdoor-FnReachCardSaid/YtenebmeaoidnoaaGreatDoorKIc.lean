/- KI9, KI10, KI11, KI13, KI14, joined. -/
import Derived.Test.YtenebmeaoidnoaaGreatDoorKI8
import Derived.Sort.OwnSortedInts
import Derived.Test.YtenebmeaoidnoaaGreatDoorKY
namespace Go.Proofs.YtenebmeaoidnoaaGreatDoor
open Go.RowKit Go.Sort
theorem compact_inv (d:Array Int) (hs:∀ i j,i<j→j<d.size→d[i]!≤d[j]!):∀ m,m≤d.size →
    (Lib.compactUpTo d m).Pairwise (· < ·)∧∀ x,x ∈ Lib.compactUpTo d m↔∃ j,j<m∧d[j]! = x
  | 0,_=>by simp [Lib.compactUpTo]
  | m+1,h=>by
    obtain ⟨h1,h2⟩:=compact_inv d hs m (by omega);rw [Lib.compactUpTo_succ]
    by_cases hk:Lib.keeps d m=true
    · rw [if_pos hk];constructor
      · rw [List.pairwise_append];refine ⟨h1,by simp,fun a ha b hb=>?_⟩
        obtain rfl:b=d[m]!:=by simpa using hb
        obtain ⟨j,hj,rfl⟩:=(h2 a).1 ha;have hm:m≠0:=by omega
        unfold Lib.keeps at hk;have hne:d[m]!≠d[m - 1]!:=by simpa [hm] using hk
        have h3:=hs (m - 1) m (by omega) (by omega)
        by_cases e:j=m - 1
        · subst e;omega
        · have:=hs j (m - 1) (by omega) (by omega);omega
      · intro x;rw [List.mem_append,h2];constructor
        · rintro (⟨j,hj,rfl⟩ | hx)
          · exact ⟨j,by omega,rfl⟩
          · exact ⟨m,by omega,(List.mem_singleton.1 hx).symm⟩
        · rintro ⟨j,hj,rfl⟩
          by_cases e:j=m
          · subst e;exact .inr (by simp)
          · exact .inl ⟨j,by omega,rfl⟩
    · rw [if_neg hk,List.append_nil];refine ⟨h1,fun x=>?_⟩
      rw [h2];have hk':m≠0∧d[m]! = d[m - 1]!:=by
        unfold Lib.keeps at hk;simpa using hk
      constructor
      · rintro ⟨j,hj,e⟩;exact ⟨j,by omega,e⟩
      · rintro ⟨j,hj,rfl⟩
        by_cases e:j=m
        · subst e;exact ⟨j - 1,by omega,hk'.2.symm⟩
        · exact ⟨j,by omega,rfl⟩
theorem compact_sorted (zs:List Int) (hs:zs.Pairwise (·≤·)):(Lib.compact zs).Pairwise (· < ·)∧∀ x,x ∈ Lib.compact zs↔x ∈ zs:=by
  have:=compact_inv zs.toArray (fun i j hij hj=>by
    have hj':j<zs.length:=by simpa using hj
    have:=List.pairwise_iff_getElem.1 hs i j (by omega) hj' hij
    rw [getElem!_pos zs.toArray i (by simp;omega),getElem!_pos zs.toArray j hj];simpa using this) zs.length (by simp)
  unfold Lib.compact;refine ⟨this.1,fun x=>?_⟩
  rw [this.2];constructor
  · rintro ⟨j,hj,rfl⟩;rw [getElem!_pos zs.toArray j (by simpa using hj)];simp
  · intro hx;obtain ⟨j,hj,rfl⟩:=List.getElem_of_mem hx;exact ⟨j,hj,by rw [getElem!_pos zs.toArray j (by simpa using hj)];simp⟩
theorem lt_eq {l l':List Int} (h:l.Pairwise (· < ·)) (h':l'.Pairwise (· < ·)) (hm:∀ x,x ∈ l↔x ∈ l'):l=l':=by
  have n1:l.Nodup:=h.imp fun {a b} h=>by omega
  have n2:l'.Nodup:=h'.imp fun {a b} h=>by omega
  exact List.Perm.eq_of_pairwise (le:=fun a b=>a<b) (fun a b _ _ h1 h2=>by omega) h h' ((List.perm_ext_iff_of_nodup n1 n2).2 hm)
theorem mem_ofN {l:List Nat} {x:Int}:x ∈ ofN l↔∃ n ∈ l,(n:Int)=x:=by unfold ofN;simp
theorem compact_sortedF (xs:List Nat) (h:∀ x ∈ xs,x<12):Lib.compact ((ofN xs).mergeSort fun x y=>decide (x≤y))=ofN (Kx.sortedF xs):=by
  have hp:((ofN xs).mergeSort fun x y=>decide (x≤y)).Pairwise (·≤·):=
    (List.pairwise_mergeSort (le:=fun x y=>decide (x≤y)) (fun a b c h1 h2=>by simp only [decide_eq_true_eq] at *;omega) (fun a b=>by simp only [Bool.or_eq_true,decide_eq_true_eq];omega) (ofN xs)).imp fun {a b} h=>by simpa using h
  obtain ⟨h1,h2⟩:=compact_sorted _ hp;refine lt_eq h1 ?_ fun x=>?_
  · unfold ofN Kx.sortedF;rw [List.pairwise_map];exact (List.Pairwise.filter _ List.pairwise_lt_range).imp fun {a b} h=>by omega
  · rw [h2,(List.mergeSort_perm _ _).mem_iff,mem_ofN,mem_ofN];unfold Kx.sortedF;constructor
    · rintro ⟨n,hn,rfl⟩;exact ⟨n,List.mem_filter.2 ⟨by simpa using h n hn,by simpa using hn⟩,rfl⟩
    · rintro ⟨n,hn,rfl⟩;exact ⟨n,by simpa using (List.mem_filter.1 hn).2,rfl⟩
theorem SortI_c (zs:List Int) (base:Nat) (v:Value) (w:World) (h:OI w base v zs) :
    Calls Tryz.prog 81 #[v] w fun e w'=>e=.returned (.tuple #[])∧OI w' base v (zs.mergeSort fun x y=>decide (x≤y))∧w.grownBy w' v.ownBlock:=by
  obtain ⟨⟨h0,h1⟩,h2⟩:=h;rcases h1 with ⟨rfl,hn⟩ | ⟨g,cap,cur,rfl,hb,hg,hnc,hcm,hcs,htake⟩
  · obtain rfl:zs=[]:=List.eq_nil_of_length_eq_zero hn;have hc:=Any.slices_Sort_int_none lays189 none 0 w;change Calls Tryz.prog 81 _ _ _ at hc;refine hc.mono ?_;rintro e w' ⟨rfl,rfl⟩;exact ⟨rfl,by rw [List.mergeSort_nil];exact OI.nil _ _,World.grownBy.refl _ _⟩
  · have hc:=Any.slices_Sort_int lays189 g 0 cap zs w (holds_of_blockI hg (by rw [←Nat.mul_one zs.length];exact htake)) (Array.getElem?_eq_some_iff.1 hg).1 (by omega);change Calls Tryz.prog 81 _ _ _ at hc;refine hc.mono ?_;rintro e w' ⟨rfl,n,os,rfl⟩;refine ⟨rfl,?_,grownBy_sortedI _⟩;have hl:(zs.mergeSort fun x y=>decide (x≤y)).length=zs.length:=List.length_mergeSort ..
    have ho:=ownsRow_sortedI (n:=n) (os:=os) hl hb hg hnc hcm hcs;refine ⟨?_,by rw [hl];exact h2⟩;rw [hl];exact ho
theorem compact_len (zs:List Int):(Lib.compact zs).length≤zs.length:=by
  unfold Lib.compact Lib.compactUpTo;rw [List.length_map];exact Nat.le_trans (List.length_filter_le _ _) (by simp)
theorem CompactI_c (zs:List Int) (base:Nat) (v:Value) (w:World) (h:OI w base v zs) :
    Calls Tryz.prog 82 #[v] w fun e w'=>∃ u,e=.returned u∧OI w' base u (Lib.compact zs)∧w.grownBy w' v.ownBlock:=by
  obtain ⟨⟨h0,h1⟩,h2⟩:=h;rcases h1 with ⟨rfl,hn⟩ | ⟨g,cap,cur,rfl,hb,hg,hnc,hcm,hcs,htake⟩
  · obtain rfl:zs=[]:=List.eq_nil_of_length_eq_zero hn;have hc:=Any.slices_Compact_int_empty laysNm220 none 0 w;change Calls Tryz.prog 82 _ _ _ at hc;refine hc.mono ?_;rintro e w' ⟨rfl,rfl⟩;exact ⟨_,rfl,by rw [show Lib.compact ([]:List Int)=[] from rfl];exact OI.nil _ _,World.grownBy.refl _ _⟩
  · have hc:=Any.slices_Compact_int laysNm220 g 0 cap zs w (holds_of_blockI hg (by rw [←Nat.mul_one zs.length];exact htake)) (by omega) hnc;change Calls Tryz.prog 82 _ _ _ at hc;refine hc.mono ?_;rintro e w' ⟨rfl,n,rfl⟩;have hl:=compact_len zs;have hd:(Lib.compact zs ++ List.replicate (zs.length - (Lib.compact zs).length) 0).length=zs.length:=by simp;omega
    have hgr:=grownBy_sortedI (w:=w) (g:=g) (n:=n) (os:=#[]) (Lib.compact zs ++ List.replicate (zs.length - (Lib.compact zs).length) 0).toArray;rw [grow_empty] at hgr;have ho:=ownsRow_sortedI (n:=n) (os:=#[]) hd hb hg hnc hcm hcs;rw [grow_empty] at ho;refine ⟨_,rfl,⟨⟨by simp [ints],.inr ?_⟩,by omega⟩,hgr⟩;rcases ho.2 with ⟨e,_⟩ | ⟨g',cap',cur',e,hb',hg',_,_,hcs',ht'⟩
    · cases e
    · simp only [Value.slice.injEq,Option.some.injEq,Addr.mk.injEq] at e;obtain ⟨⟨rfl,_⟩,_,rfl⟩:=e;refine ⟨g,cap,cur',rfl,hb,hg',by omega,hcm,hcs',?_⟩;have:=congrArg (List.take (Lib.compact zs).length) ht';rw [List.take_take,Nat.mul_one,Nat.min_eq_left hl] at this;rw [Nat.mul_one,this];simp [ints,List.map_append]
theorem flat_len4 {m:List (List Int)} (hm:Kx.memOk m=true):∀ (fs:List Nat),(∀ f ∈ fs,f<12)→(fs.flatMap fun f=>Kx.namedW (Kx.row m f)).length≤4*fs.length
  | [],_=>by simp
  | f :: fs,h=>by
    have h1:=flat_len4 hm fs fun x hx=>h x (List.mem_cons_of_mem _ hx)
    have h4:=(mem_row hm (h f (List.mem_cons_self ..))).2.1;have h2:(Kx.namedW (Kx.row m f)).length≤(Kx.row m f).length:=by unfold Kx.namedW;exact List.length_filterMap_le _ _
    rw [List.flatMap_cons,List.length_append,List.length_cons];omega
theorem flat_lt {m:List (List Int)} {fs:List Nat}:∀ x ∈ fs.flatMap (fun f=>Kx.namedW (Kx.row m f)),x<12:=fun x hx=>by
  obtain ⟨f,_,hf⟩:=List.mem_flatMap.1 hx;exact Kx.namedW_lt hf
set_option maxHeartbeats 2000000 in
theorem named_c (m:List (List Int)) (fs:List Nat) (vm v:Value) (w:World) (hm:RM w vm m) (hmo:Kx.memOk m=true) (h:RI w v (ofN fs)) (hlt:∀ f ∈ fs,f<12) (hl:fs.length≤12) :
    Calls Tryz.prog 61 #[vm,v] w (MadeI w (ofN (Kx.sortedF (fs.flatMap fun f=>Kx.namedW (Kx.row m f))))):=by
  have Hc:=hI_ (compact_sortedF _ (flat_lt (m:=m) (fs:=fs)));obtain ⟨_,am,cm,rfl,_,_⟩:=hm.len;obtain ⟨a,cap,rfl⟩:=h.val;have Hm:=hI_ hm;have H:=hI_ h;have Hlt:=hI_ hlt;have Hmo:=hI_ hmo;have Hfl:=hI_ (show ∀ k,k≤fs.length→((fs.take k).flatMap fun f=>Kx.namedW (Kx.row m f)).length≤4*k from fun k hk=>by
    have:=flat_len4 hmo (fs.take k) fun f hf=>hlt f (List.mem_of_mem_take hf)
    rw [List.length_take,Nat.min_eq_left hk] at this;exact this)
  obtain ⟨n,hn⟩:∃ n,(ofN fs).length=n:=⟨_,rfl⟩;have Hn:=hI_ (show fs.length=n by rw [←hn,ofN_length]);have hn12:n≤12:=by have:=Hn.out;omega
  have Hm12:=hI_ (show m.length=12 from (Kx.memOk_iff.1 hmo).1);rw [hn] at H ⊢;clear hm h hlt hmo hn hl;go_enter Tryz.func61,Tryz.ntmps61;go_wp2_with fail;go_loopw [5,15] (fun out i wr=>∃ k:Nat,i=.int .i64 k∧k≤n∧Hid (OS intC 1 3 wr w.heap.size out (ofN ((fs.take k).flatMap fun f=>Kx.namedW (Kx.row m f))))∧Hid (Below w.heap.size w wr)) (fun _ i _=>n - (intOf i).toNat)
  case atStart=>exact ⟨0,rfl,Nat.zero_le _,(OI.nil _ _).os,Below.refl _ _⟩
  case round =>
    obtain ⟨k,rfl,hk,ho,hb⟩:=hrel
    by_cases hlt:k<n
    · have hkf:k<fs.length:=by have:=Hn.out;omega
      have hko:k<(ofN fs).length:=by rw [ofN_length];exact hkf
      obtain ⟨b,off,cap',e,_,hc⟩:=(H.out.below hb.out).at hko;rw [ofN_length,Hn.out] at e;simp only [Value.slice.injEq] at e;obtain ⟨rfl,_,rfl⟩:=e;have hlI:(k:Int)<(n:Int):=by omega
      have hf12:=Hlt.out _ (List.getElem_mem hkf);have htk:fs.take (k+1)=fs.take k ++ [fs[k]]:=by rw [List.take_succ_eq_append_getElem hkf]
      rw [ofN_getElem fs k hko hkf] at hc;generalize fs[k]=f at hc hf12 htk;have Hs:=hI_ (show (fs.take (k+1)).flatMap (fun f=>Kx.namedW (Kx.row m f))=(fs.take k).flatMap (fun f=>Kx.namedW (Kx.row m f)) ++ Kx.namedW (Kx.row m f) by rw [htk];simp)
      have Hk4:=hI_ (Hfl.out k (by omega));obtain ⟨b2,off2,cap2,u2,e,hc2',hr2⟩:=Hm.out.row Hmo.out hf12;have hc2:=(hb.out.cell (p:=⟨b2,off2+f,none⟩) (World.block_lt_of_cell? w _ hc2')).trans hc2';rw [←Hm12.out] at e;simp only [Value.slice.injEq] at e;obtain ⟨rfl,_,rfl⟩:=e;have hfI:(f:Int)<(m.length:Int):=by rw [Hm12.out];omega
      obtain ⟨hmx,h4,hw⟩:=mem_row Hmo.out hf12;have H4:=hI_ h4;have Hw:=hI_ hw;obtain ⟨a3,c3,rfl⟩:=hr2.val;rw [h4] at hc2 hr2;have Hrow:=hI_ hr2;clear htk h4 hw hr2 hc2' hmx;generalize (fs.take k).flatMap (fun f=>Kx.namedW (Kx.row m f))=ys at ho Hs Hk4
      generalize Kx.row m f=row at Hs H4 Hw Hrow;go_wp2_with fail;go_loopw [5,24] (fun out i wi=>∃ j:Nat,i=.int .i64 j∧j≤4∧Hid (OS intC 1 3 wi w.heap.size out (ofN (ys ++ Kx.namedW (row.take j))))∧Hid (Below w.heap.size w wi)) (fun _ i _=>4 - (intOf i).toNat)
      case atStart=>exact ⟨0,rfl,Nat.zero_le _,by simpa [Hid,Kx.namedW] using ho.out,hb.out⟩
      case round =>
        clear hc hc2 ho hb;obtain ⟨j,rfl,hj,ho2,hb2⟩:=hrel
        by_cases hjl:j<4
        · have hjr:j<row.length:=by rw [H4.out];exact hjl
          have hjI:(j:Int)<4:=by omega
          obtain ⟨b4,off4,cap4,e,_,hc4⟩:=(Hrow.out.below hb2.out).at hjr;rw [H4.out] at e;simp only [Value.slice.injEq] at e;obtain ⟨rfl,_,rfl⟩:=e;have htj:row.take (j+1)=row.take j ++ [row[j]]:=by rw [List.take_succ_eq_append_getElem hjr]
          have hx9:=Hw.out _ (List.getElem_mem hjr);generalize row[j]=x at hc4 htj hx9;obtain ⟨hx0,hx9⟩:=hx9;have hnt:ys ++ Kx.namedW (row.take (j+1))=(ys ++ Kx.namedW (row.take j)) ++ Kx.namedW [x]:=by rw [htj];simp [Kx.namedW]
          have hl2:(ys ++ Kx.namedW (row.take j)).length≤100:=by
            have h1:(Kx.namedW (row.take j)).length≤j:=Nat.le_trans (by unfold Kx.namedW;exact List.length_filterMap_le _ _) (List.length_take_le _ _);have h2:=Hk4.out;rw [List.length_append];omega
          have Hnt:=hI_ hnt;have Hl2:=hI_ hl2;clear hnt hl2 htj;generalize ys ++ Kx.namedW (row.take j)=zs at ho2 Hnt Hl2
          cases he:Kx.entry x with
          | none =>
            have Hx:=hI_ (show Kx.namedW [x]=[] by simp [Kx.namedW,he]);have He:=hI_ he;clear he;go_wp2_with fail;refine (implEntryGet_c _ _ (by omega)).mono ?_;rintro e w' ⟨rfl,rfl⟩;rw [EgN He.out];go_wp2_with fail;go_roundw
            case rel=>exact ⟨j+1,by go_num,by omega,by show OS _ _ _ _ _ _ _;rw [Hnt.out,Hx.out,List.append_nil];exact ho2.out,hb2.out⟩
            case measure=>simp [intOf];omega
          | some p =>
            obtain ⟨g,c⟩:=p;have Hx:=hI_ (show Kx.namedW [x]=[g] by simp [Kx.namedW,he]);have He:=hI_ he;clear he;have hsz:=hI_ hb2.out.size;have hsz2:=hI_ (show w.heap.size≤(wr.alloc (.cells #[.int .i64 (g:Int)] 3)).heap.size by simp;exact Nat.le_succ_of_le hsz.out);have hR:=hI_ (RS.one (f:=intC) (sz:=1) (g:Int) #[.int .i64 (g:Int)] rfl wr 3);have hL:=hI_ (show (ofN zs).length+[(g:Int)].length≤1099511627776 by rw [ofN_length];have:=Hl2.out;simp;omega);go_wp2_with fail;refine (implEntryGet_c _ _ (by omega)).mono ?_;rintro e w' ⟨rfl,rfl⟩;rw [EgS He.out];go_wp2_with (at_builtin;refine wpList_appS tiInt rfl _ _ rfl w.heap.size _ (ofN zs) rfl (ho2.out.alloc _) _ [(g:Int)] rfl hR.out hL.out hsz2.out ?_;intro v' w3 ho3 hg3 hn3;have Ho3:=hI_ ho3;have Hg3:=hI_ hg3;clear ho3 hg3 hn3);go_roundw
            case rel =>
              refine ⟨j+1,by go_num,by omega,?_,?_⟩
              · show OS _ _ _ _ _ _ _;rw [Hnt.out,Hx.out,ofN_append];exact Ho3.out
              · exact Below.appS (hb2.out.alloc hb2.out.size _) (ho2.out.alloc _) Hg3.out nR_ hsz2.out
            case measure=>simp [intOf];omega
        · have hj4:j=4:=by omega
          subst hj4;have Ht:=hI_ (show ys ++ Kx.namedW (row.take 4)=ys ++ Kx.namedW row by rw [List.take_of_length_le (by rw [H4.out];omega)]);go_wp2_with fail;go_roundw
          case rel=>exact ⟨k+1,by go_num,by omega,by show OS _ _ _ _ _ _ _;rw [Hs.out,←Ht.out];exact ho2.out,hb2.out⟩
          case measure=>simp [intOf];omega
    · have hkn:k=n:=by omega
      subst hkn;have htk:fs.take k=fs:=List.take_of_length_le (by have:=Hn.out;omega);have ho9:=ho.out.oi;rw [htk] at ho9;have Ho9:=hI_ ho9;clear ho9 htk;go_wp2_with fail;refine (SortI_c _ _ _ _ Ho9.out).mono ?_;rintro e w4 ⟨rfl,ho4,hg4⟩;have Ho4:=hI_ ho4;have B4:=hI_ (Below.mark hb.out Ho9.out hg4 nR_ hb.out.size);clear ho4 hg4;go_wp2_with fail;refine (CompactI_c _ _ _ _ Ho4.out).mono ?_;rintro e w5 ⟨u5,rfl,ho5,hg5⟩;have Ho5:=hI_ ho5;have B5:=hI_ (Below.mark B4.out Ho4.out hg5 nR_ B4.out.size);clear ho5 hg5;go_wp2_with fail;go_ret;refine ⟨_,rfl,?_,B5.out⟩;rw [←Hc.out];exact Ho5.out
theorem tables_flat (m:List (List Int)) (r:Nat):Kx.sortedF (([r]:List Nat).flatMap fun f=>Kx.namedW (Kx.row m f))=Kx.tables m r:=by simp [Kx.tables]
set_option maxHeartbeats 2000000 in
theorem reached_c (m:List (List Int)) (root:Int) (v:Value) (w:World) (h:RM w v m) (hm:Kx.memOk m=true) (hr:root≤11) :
    Calls Tryz.prog 40 #[v,.int .i64 root] w (MadeI w (ofN (Kx.reach m root))):=by
  by_cases h0:root<0
  · have hw:=hI_ (show Kx.reach m root=[] by unfold Kx.reach;rw [if_pos h0]);obtain ⟨_,a,cap,rfl,_,_⟩:=h.len;go_enter Tryz.func40,Tryz.ntmps40;go_wp2_with fail;go_ret;refine ⟨_,rfl,?_,Below.refl _ _⟩;rw [hw.out];exact OI.nil _ _
  · obtain ⟨r,rfl⟩:=Int.eq_ofNat_of_zero_le (show 0≤root by omega);have hr12:r<12:=by omega
    have hw:=hI_ (show Kx.reach m (r:Int)=Kx.sortedF (r :: (Kx.tables m r ++ Kx.framesR m r)) by unfold Kx.reach;rw [if_neg h0];simp);have Hcs:=hI_ (compact_sortedF (r :: (Kx.tables m r ++ Kx.framesR m r)) (fun x hx=>by
      have:x ∈ Kx.reach m (r:Int)∨x<12:=by
        rcases List.mem_cons.1 hx with rfl | hx
        · exact .inr hr12
        · rcases List.mem_append.1 hx with hx | hx
          · unfold Kx.tables Kx.sortedF at hx;exact .inr (by simpa using (List.mem_filter.1 hx).1)
          · unfold Kx.framesR Kx.sortedF at hx;exact .inr (by simpa using (List.mem_filter.1 hx).1)
      rcases this with h | h
      · exact reach_lt x h
      · exact h))
    obtain ⟨w1,hw1⟩:∃ w1,w.alloc (.cells #[.int .i64 (r:Int)] 3)=w1:=⟨_,rfl⟩;have B1:=hI_ (show Below w.heap.size w w1 from hw1 ▸ bL_);have H1:=hI_ (show OS intC 1 3 w1 w.heap.size (.slice (some ⟨w.heap.size,0,none⟩) 1 1) [(r:Int)] from hw1 ▸ OS.lit (l:=[(r:Int)]) nR_ _ rfl rfl (by simp));obtain ⟨w2,hw2⟩:∃ w2,w1.alloc (.cells #[.int .i64 (r:Int)] 3)=w2:=⟨_,rfl⟩;have B2:=hI_ (show Below w1.heap.size w1 w2 from hw2 ▸ bL_);have H2:=hI_ (show RI w2 (.slice (some ⟨w1.heap.size,0,none⟩) 1 1) (ofN [r]) from RI.rs (hw2 ▸ RS.one (f:=intC) (sz:=1) (r:Int) #[.int .i64 (r:Int)] rfl w1 3));have B12:=hI_ (B1.out.trans (B2.out.mono B1.out.size));have HN:=hI_ (named_c m [r] v _ w2 (h.below B12.out) hm H2.out (by simpa using hr12) (by simp));rw [tables_flat] at HN;have H12:=hI_ (H1.out.below B2.out);have Hh:=hI_ h;have Hm:=hI_ hm
    have Hl:=hI_ (show (Kx.tables m r).length≤12∧(Kx.framesR m r).length≤12 from ⟨Nat.le_trans (List.length_filter_le _ _) (by simp),Nat.le_trans (List.length_filter_le _ _) (by simp)⟩);have Ht12:=hI_ (show ∀ x ∈ Kx.tables m r,x<12 from fun x hx=>by
      unfold Kx.tables Kx.sortedF at hx;simpa using (List.mem_filter.1 hx).1)
    have hfr:=hI_ (show Kx.framesR m r=Kx.sortedF ((Kx.tables m r).flatMap fun f=>Kx.namedW (Kx.row m f)) from rfl)
    obtain ⟨_,a,cap,rfl,_,_⟩:=h.len;clear h hm;go_enter Tryz.func40,Tryz.ntmps40;go_wp2_with fail;refine HN.out.mono ?_;rintro e w3 ⟨u3,rfl,ho,hb⟩;have Ho3:=hI_ ho.os;have H13:=hI_ (H12.out.below hb);have B3:=hI_ (B12.out.trans (hb.mono B12.out.size));have HL:=hI_ (show [(r:Int)].length+(ofN (Kx.tables m r)).length≤1099511627776 by rw [ofN_length];have:=Hl.out;simp;omega);clear ho hb HN hw1 hw2;go_wp2_with (at_builtin;refine wpList_appS tiInt rfl _ _ rfl w.heap.size _ [(r:Int)] rfl H13.out _ (ofN (Kx.tables m r)) rfl Ho3.out.rs HL.out B3.out.size ?_;intro v4 w4 ho4 hg4 hn4;have Ho4:=hI_ ho4;have B4:=hI_ (Below.appS B3.out H13.out hg4 nR_ B3.out.size);clear ho4 hg4 hn4);obtain ⟨w5,hw5⟩:∃ w5,w4.alloc (.cells #[.int .i64 (r:Int)] 3)=w5:=⟨_,rfl⟩;have B45:=hI_ (show Below w4.heap.size w4 w5 from hw5 ▸ bL_)
    have H5:=hI_ (show RI w5 (.slice (some ⟨w4.heap.size,0,none⟩) 1 1) (ofN [r]) from RI.rs (hw5 ▸ RS.one (f:=intC) (sz:=1) (r:Int) #[.int .i64 (r:Int)] rfl w4 3));have B5:=hI_ (B4.out.trans (B45.out.mono B4.out.size));have HN:=hI_ (named_c m [r] _ _ w5 (Hh.out.below B5.out) Hm.out H5.out (by simpa using hr12) (by simp));rw [tables_flat] at HN;have Ho5:=hI_ (Ho4.out.below B45.out);rw [hw5];refine HN.out.mono ?_;rintro e w6 ⟨u6,rfl,ho,hb⟩;have Ho6:=hI_ ho;have Hv6:=hI_ (Ho5.out.below hb);have B6:=hI_ (B5.out.trans (hb.mono B5.out.size));clear ho hb HN hw5;have HN:=hI_ (named_c m (Kx.tables m r) _ u6 w6 (Hh.out.below B6.out) Hm.out Ho6.out.ri Ht12.out Hl.out.1);rw [←hfr.out] at HN;go_wp2_with fail;refine HN.out.mono ?_;rintro e w7 ⟨u7,rfl,ho,hb⟩;have Ho7:=hI_ ho.os;have Hv7:=hI_ (Hv6.out.below hb);have B7:=hI_ (B6.out.trans (hb.mono B6.out.size))
    have HL2:=hI_ (show ([(r:Int)] ++ ofN (Kx.tables m r)).length+(ofN (Kx.framesR m r)).length≤1099511627776 by rw [List.length_append,ofN_length,ofN_length];have:=Hl.out;simp;omega);clear ho hb HN;go_wp2_with (at_builtin;refine wpList_appS tiInt rfl _ _ rfl w.heap.size _ ([(r:Int)] ++ ofN (Kx.tables m r)) rfl Hv7.out _ (ofN (Kx.framesR m r)) rfl Ho7.out.rs HL2.out B7.out.size ?_;intro v8 w8 ho8 hg8 hn8;have Ho8:=hI_ ho8;have B8:=hI_ (Below.appS B7.out Hv7.out hg8 nR_ B7.out.size);clear ho8 hg8 hn8);have H8:=hI_ (show OI w8 w.heap.size v8 (ofN (r :: (Kx.tables m r ++ Kx.framesR m r))) by
      have:=Ho8.out.oi
      rw [List.append_assoc,←ofN_append] at this;exact this)
    refine (SortI_c _ _ _ _ H8.out).mono ?_;rintro e w9 ⟨rfl,ho9,hg9⟩;have Ho9:=hI_ ho9;have B9:=hI_ (Below.mark B8.out H8.out hg9 nR_ B8.out.size);clear ho9 hg9;go_wp2_with fail;refine (CompactI_c _ _ _ _ Ho9.out).mono ?_;rintro e w10 ⟨u10,rfl,ho10,hg10⟩;have Ho10:=hI_ ho10;have B10:=hI_ (Below.mark B9.out Ho9.out hg10 nR_ B9.out.size);clear ho10 hg10;go_wp2_with fail;go_ret;refine ⟨_,rfl,?_,B10.out⟩;rw [hw.out,←Hcs.out];exact Ho10.out
/-- uses by the first f tables, and by the first i words of the next one -/
def cntW (m:List (List Int)) (l:List Kx.Info) (f i g:Nat):Nat:=((List.range f).map (Kx.ctr m l g)).sum+(Kx.namedW ((Kx.row m f).take i)).count g
theorem cntW_zero (m:List (List Int)) (l:List Kx.Info) (f g:Nat):cntW m l f 0 g=cnt m l f 0 g:=by simp [cntW,cnt,Kx.namedW]
theorem cntW_next (m:List (List Int)) (l:List Kx.Info) (f g:Nat) (h4:(Kx.row m f).length=4) (ht:Kx.isTab (Kx.inf l f).kind=true):cnt m l (f+1) 0 g=cntW m l f 4 g:=by
  rw [cnt_next m l f g ht];unfold cnt cntW;rw [List.take_length,List.take_of_length_le (by omega)]
theorem cntW_step (m:List (List Int)) (l:List Kx.Info) (f i g:Nat) (x:Int) (hi:i<(Kx.row m f).length) (hx:(Kx.row m f)[i]=x):cntW m l f (i+1) g=cntW m l f i g+(Kx.namedW [x]).count g:=by
  unfold cntW;have:Kx.namedW ((Kx.row m f).take (i+1))=Kx.namedW ((Kx.row m f).take i) ++ Kx.namedW [x]:=by
    rw [List.take_succ_eq_append_getElem hi,hx];simp [Kx.namedW]
  rw [this,List.count_append];omega
theorem cntW_le (m:List (List Int)) (l:List Kx.Info) (hm:∀ f,f<12→(Kx.row m f).length=4) (f i g:Nat) (hf:f≤12):cntW m l f i g≤4*f+i:=by
  unfold cntW;have h1:((List.range f).map (Kx.ctr m l g)).sum≤f*4:=Kx.sum_le fun j hj=>by
    unfold Kx.ctr;split
    · exact Nat.le_trans (Kx.count_le _ _) (by rw [hm j (by omega)];omega)
    · omega
  have h2:(Kx.namedW ((Kx.row m f).take i)).count g≤i:=Nat.le_trans List.count_le_length (Nat.le_trans (by unfold Kx.namedW;exact List.length_filterMap_le _ _) (List.length_take_le _ _));omega
set_option maxHeartbeats 2000000 in
theorem counted_c (m:List (List Int)) (l:List Kx.Info) (vm v:Value) (w:World) (hm:RM w vm m) (hmo:Kx.memOk m=true) (h:RInfo w v l) (h12:l.length=12) :
    Calls Tryz.prog 36 #[vm,v] w (MadeI w (Kx.counts m l)):=by
  obtain ⟨a,cap,rfl,_,_⟩:=RS.val h;obtain ⟨_,a2,cap2,rfl,_,_⟩:=hm.len;have hrow4:=hI_ (show ∀ f,f<12→(Kx.row m f).length=4 from fun f hf=>(mem_row hmo hf).2.1)
  have Hm12:=hI_ (mem_row hmo (show 0<12 by omega)).1;have H:=hI_ h;have Hm:=hI_ hm;have H12:=hI_ h12;have Hmo:=hI_ hmo;have Hall:=hI_ (cnt_all m l);have hmk:∀ w:World,(Instr.makeSlice 42 (.int .i64 12) (.int .i64 12)).run Tryz.prog w=.ok (.slice (some ⟨w.heap.size,0,none⟩) 12 12) (w.alloc (.cells #[.int .i64 0,.int .i64 0,.int .i64 0,.int .i64 0,.int .i64 0,.int .i64 0,.int .i64 0,.int .i64 0,.int .i64 0,.int .i64 0,.int .i64 0,.int .i64 0] 3)):=fun _=>by kernel_rfl
  have H0:=hI_ (show OS intC 1 3 (w.alloc (.cells #[.int .i64 0,.int .i64 0,.int .i64 0,.int .i64 0,.int .i64 0,.int .i64 0,.int .i64 0,.int .i64 0,.int .i64 0,.int .i64 0,.int .i64 0,.int .i64 0] 3)) w.heap.size (.slice (some ⟨w.heap.size,0,none⟩) 12 12) (tab12 (cnt m l 0 0)) by
    have e:tab12 (cnt m l 0 0)=[0,0,0,0,0,0,0,0,0,0,0,0]:=by
      rw [tab12_congr (F':=fun _=>0) (fun g _=>cnt_zero m l g)];rfl
    rw [e];exact OS.lit (l:=[0,0,0,0,0,0,0,0,0,0,0,0]) nR_ _ rfl rfl (by simp))
  clear h hm h12 hmo;go_enter Tryz.func36,Tryz.ntmps36;go_wp2_with fail;clear hmk;go_loopw [16] (fun i wr=>∃ f:Nat,i=.int .i64 f∧f≤l.length∧Hid (OS intC 1 3 wr w.heap.size (.slice (some ⟨w.heap.size,0,none⟩) 12 12) (tab12 (cnt m l f 0)))∧Hid (Below w.heap.size w wr)) (fun i _=>l.length - (intOf i).toNat)
  case atStart=>exact ⟨0,rfl,Nat.zero_le _,H0.out,bR_.alloc nR_ _⟩
  case round =>
    clear H0;obtain ⟨f,rfl,hf,ho,hb⟩:=hrel
    by_cases hlt:f<l.length
    · obtain ⟨b5,off5,cap5,e,_,h1,h2,h3⟩:=RInfo.at (RS.below H.out hb.out) hlt;simp only [Value.slice.injEq] at e;obtain ⟨rfl,_,rfl⟩:=e;have hfl:(f:Int)<(l.length:Int):=by omega
      have hf12:f<12:=by have:=H12.out;omega
      have Ht0:=hI_ (show ∀ b,Kx.isTab (Kx.inf l f).kind=b→Kx.isTab (Kx.inf l f).kind=b from fun _ h=>h)
      have Hkind:=hI_ (show Kx.isTab (Kx.inf l f).kind=Kx.isTab (Kx.inf l f).kind from rfl)
      cases ht:Kx.isTab (Kx.inf l f).kind with
      | false =>
        have Hskip:=hI_ (show tab12 (cnt m l (f+1) 0)=tab12 (cnt m l f 0) from tab12_congr fun g _=>cnt_skip m l f g ht)
        have Ht:=hI_ ht;clear ht Ht0 Hkind;generalize Kx.inf l f=y at h1 h2 h3 Ht;obtain ⟨W1,hW1⟩:∃ W1,wr.alloc (.cells #[.int .i64 y.kind,.string y.guard,.int .i64 y.refs] 45)=W1:=⟨_,rfl⟩;have B1:=hI_ (show Below wr.heap.size wr W1 from hW1 ▸ bL_);obtain ⟨c0,c1,c2⟩:=(show W1.cell? ⟨wr.heap.size,0,none⟩=some (.int .i64 y.kind)∧W1.cell? ⟨wr.heap.size,1,none⟩=some (.string y.guard)∧W1.cell? ⟨wr.heap.size,2,none⟩=some (.int .i64 y.refs) from hW1 ▸ Box3.new wr _ _ _ _);go_wp2_with (go_at_call 41;refine (isTable_c _ _).mono ?_;rintro e w' ⟨rfl,rfl⟩;rw [Ht.out]);go_roundw
        case rel=>exact ⟨f+1,by go_num,by omega,by show OS _ _ _ _ _ _ _;rw [Hskip.out];exact ho.out.below B1.out,hb.out.trans (B1.out.mono hb.out.size)⟩
        case measure=>simp [intOf];omega
      | true =>
        obtain ⟨b2,off2,cap3,u2,e,hc2',hr2⟩:=Hm.out.row Hmo.out hf12;have hc2:=(hb.out.cell (p:=⟨b2,off2+f,none⟩) (World.block_lt_of_cell? w _ hc2')).trans hc2';have hb2l:=World.block_lt_of_cell? w _ hc2';rw [←Hm12.out] at e;simp only [Value.slice.injEq] at e;obtain ⟨rfl,_,rfl⟩:=e;have hfm:(f:Int)<(m.length:Int):=by rw [Hm12.out];omega
        have h4:=hrow4.out f hf12;obtain ⟨a3,c3,rfl⟩:=hr2.val;rw [h4] at hc2 hr2;have Hnext:=hI_ (show tab12 (cnt m l (f+1) 0)=tab12 (cntW m l f 4) from tab12_congr fun g _=>cntW_next m l f g h4 ht)
        have H4:=hI_ h4;have Hrow:=hI_ hr2;have Ht:=hI_ ht;have Hw:=hI_ (mem_row Hmo.out hf12).2.2;have Hwle:=hI_ (fun i g=>cntW_le m l hrow4.out f i g (by omega))
        have Hst0:=hI_ (show tab12 (cnt m l f 0)=tab12 (cntW m l f 0) from tab12_congr fun g _=>(cntW_zero m l f g).symm)
        have Hws:=hI_ (fun i g x hi hx=>cntW_step m l f i g x hi hx);clear ht Ht0 Hkind h4 hr2 hc2';generalize Kx.inf l f=y at h1 h2 h3 Ht;generalize Kx.row m f=row at H4 Hrow Hw Hws;obtain ⟨W1,hW1⟩:∃ W1,wr.alloc (.cells #[.int .i64 y.kind,.string y.guard,.int .i64 y.refs] 45)=W1:=⟨_,rfl⟩;have B1:=hI_ (show Below wr.heap.size wr W1 from hW1 ▸ bL_);obtain ⟨c0,c1,c2⟩:=(show W1.cell? ⟨wr.heap.size,0,none⟩=some (.int .i64 y.kind)∧W1.cell? ⟨wr.heap.size,1,none⟩=some (.string y.guard)∧W1.cell? ⟨wr.heap.size,2,none⟩=some (.int .i64 y.refs) from hW1 ▸ Box3.new wr _ _ _ _);have B01:=hI_ (hb.out.trans (B1.out.mono hb.out.size));have hc2W:W1.cell? ⟨b2,off2+f,none⟩=some (.slice a3 4 c3):=(B1.out.cell (p:=⟨b2,off2+f,none⟩) (Nat.lt_of_lt_of_le hb2l hb.out.size)).trans hc2;have Ho1:=hI_ (ho.out.below B1.out);rw [Hst0.out] at Ho1;clear hc2 hb2l
        go_wp2_with (go_at_call 41;refine (isTable_c _ _).mono ?_;rintro e w' ⟨rfl,rfl⟩;rw [Ht.out]);go_loopw [30] (fun i wq=>∃ j:Nat,i=.int .i64 j∧j≤4∧Hid (OS intC 1 3 wq w.heap.size (.slice (some ⟨w.heap.size,0,none⟩) 12 12) (tab12 (cntW m l f j)))∧Hid (Below w.heap.size w wq)) (fun i _=>4 - (intOf i).toNat)
        case atStart=>exact ⟨0,rfl,Nat.zero_le _,Ho1.out,B01.out⟩
        case round =>
          clear c0 c1 c2 hc2W Ho1 B01 B1 ho hb h1 h2 h3 hW1;obtain ⟨j,rfl,hj,ho,hb⟩:=hrel
          by_cases hjl:j<4
          · have hjr:j<row.length:=by rw [H4.out];exact hjl
            have hjI:(j:Int)<4:=by omega
            obtain ⟨b4,off4,cap4,e,_,hc4⟩:=(Hrow.out.below hb.out).at hjr;rw [H4.out] at e;simp only [Value.slice.injEq] at e;obtain ⟨rfl,_,rfl⟩:=e;have hx9:=Hw.out _ (List.getElem_mem hjr);have Hs:=hI_ (fun g=>Hws.out j g row[j] hjr rfl);generalize row[j]=x at hc4 Hs hx9;obtain ⟨hx0,hx9⟩:=hx9
            cases he:Kx.entry x with
            | none =>
              have Hx:=hI_ (show tab12 (cntW m l f (j+1))=tab12 (cntW m l f j) from tab12_congr fun g _=>by rw [Hs.out];simp [Kx.namedW,he])
              have He:=hI_ he;clear he;go_wp2_with fail;refine (implEntryGet_c _ _ (by omega)).mono ?_;rintro e w' ⟨rfl,rfl⟩;rw [EgN He.out];go_wp2_with fail;go_roundw
              case rel=>exact ⟨j+1,by go_num,by omega,by show OS _ _ _ _ _ _ _;rw [Hx.out];exact ho.out,hb.out⟩
              case measure=>simp [intOf];omega
            | some p =>
              obtain ⟨g,c⟩:=p;have hg12:=Kx.entry_lt he;have hstep:∀ i,cntW m l f (j+1) i=cntW m l f j i+if i=g then 1 else 0:=fun i=>by
                rw [Hs.out];congr 1
                by_cases e:i=g
                · simp [Kx.namedW,he,e]
                · simp [Kx.namedW,he,e,Ne.symm e]
              obtain ⟨b6,cap6,e,_,hcg,hfg⟩:=ho.out.oi.at (k:=g) (by rw [tab12_length];exact hg12);simp only [Value.slice.injEq,Option.some.injEq,Addr.mk.injEq] at e;obtain ⟨⟨rfl,_,_⟩,he12,rfl⟩:=e;clear he12;rw [tab12_get] at hcg;have hset:=hI_ (tab12_set (cntW m l f j) (cntW m l f (j+1)) g ((cntW m l f j g:Int)+1) (by rw [hstep,if_pos rfl];omega) (fun i hi=>by rw [hstep,if_neg hi];rfl));have hst:=ho.out.oi.stored (tab12_length _) g ((cntW m l f j g:Int)+1);rw [hset.out] at hst;have Hst:=hI_ hst.1;have hgI:(g:Int)<12:=by omega
              have hbI:(cntW m l f j g:Int)≤1000:=by have:=Hwle.out j g;omega
              have He:=hI_ he;clear hst hset hstep he;generalize cntW m l f j g=q at hcg Hst hbI;go_wp2_with fail;refine (implEntryGet_c _ _ (by omega)).mono ?_;rintro e w' ⟨rfl,rfl⟩;rw [EgS He.out];go_wp2_with fail;go_roundw
              case rel=>exact ⟨j+1,by go_num,by omega,Hst.out.os,hb.out.setCell (p:=⟨w.heap.size,g,none⟩) nR_ _⟩
              case measure=>simp [intOf];omega
          · have hj4:j=4:=by omega
            subst hj4;go_wp2_with fail;go_roundw
            case rel=>exact ⟨f+1,by go_num,by omega,by show OS _ _ _ _ _ _ _;rw [Hnext.out];exact ho.out,hb.out⟩
            case measure=>simp [intOf];omega
    · have hf12:f=12:=by have:=H12.out;omega
      have Ho:=hI_ (show OS intC 1 3 wr w.heap.size (.slice (some ⟨w.heap.size,0,none⟩) 12 12) (Kx.counts m l) by have h9:=ho.out;rw [hf12,Hall.out] at h9;exact h9);clear hf12;go_wp2_with fail;go_ret;exact ⟨_,rfl,Ho.out.oi,hb.out⟩
/-- the pager's own frame -/
def mine (l:List Kx.Info) (f:Nat):Bool:=decide ((Kx.inf l f).guard=Kx.sA)&&(Kx.inf l f).refs==1
theorem kernelOk_parts {k:Kx.Kernel} (h:Kx.kernelOk k=true):Kx.memOk k.mem=true∧Kx.infosOk k.infos=true∧k.infos.length=12∧Kx.cacheOk k.cache=true∧k.envs.length=3∧∀ e,e<3→(Kx.envAt k.envs e).root≤11:=by
  unfold Kx.kernelOk at h;simp only [Bool.and_eq_true] at h;obtain ⟨⟨⟨⟨⟨⟨h1,h2⟩,h3⟩,h4⟩,_⟩,_⟩,_⟩:=h;have h12:k.infos.length=12:=by unfold Kx.infosOk at h2;simp only [Bool.and_eq_true] at h2;simpa using h2.2
  unfold Kx.envsOk at h4;rw [eOk_all] at h4;simp only [Bool.and_eq_true,List.all_eq_true] at h4;have he:k.envs.length=3:=by simpa using h4.2
  refine ⟨h1,h2,h12,h3,he,fun e hlt=>?_⟩
  have h5:=h4.1 e (by rw [he];simpa using hlt);unfold eOk Kx.envOk at h5;simp only [Bool.and_eq_true] at h5;exact (Kx.inR_true.1 h5.1.1.2).2
end Go.Proofs.YtenebmeaoidnoaaGreatDoor
